/- The machine's side of a law,written by a program of this session for this claim. -/
import Derived.Test.YtoiiaklmjpiejaaDoorAQq
import Derived.Test.YtoiiaklmjpiejaaDoorAQFnArgsx0
namespace Go.Proofs.YtoiiaklmjpiejaaDoor.QFnArgs
open Go.Proofs.YtoiiaklmjpiejaaDoor.Qq
open Go.RowKit Go.Proofs.YtoiiaklmjpiejaaDoor.LibX Go.Proofs.YtoiiaklmjpiejaaDoor.LibE Go.Proofs.YtoiiaklmjpiejaaDoor.LibCB Go.Proofs.YtoiiaklmjpiejaaDoor.LibT Go.Proofs.YtoiiaklmjpiejaaDoorW.PrintWords Go.Proofs.YtoiiaklmjpiejaaDoorW.PrintLast Go.Proofs.YtoiiaklmjpiejaaDoorW.PrintMore
attribute [local go_sem] max2_int min2_int max_two min_two max_three min_three max_four min_four   -- for this text's walks alone
set_option maxHeartbeats 8000000
set_option maxRecDepth 100000
set_option linter.unusedVariables false
set_option linter.unusedSimpArgs false
mutual
def spec_l7Plain.l0:Nat → ByteArray → Int → Option (Bool)
 | 0,_,_ => none
 | k + 1,x0,x3 => if x3 < (x0.size:Int) then (if 0 ≤ x3 then (if (bt x0 x3) < 32 then (spec_l7Plain.j1 k x0 x3 true) else (if (bt x0 x3) > 126 then (spec_l7Plain.j1 k x0 x3 true) else (spec_l7Plain.j1 k x0 x3 ((bt x0 x3) == 59)))) else (none)) else (if x0.toList = ([]:List UInt8) then (some true) else (if 0 < (x0.size:Int) then (if (bt x0 0) = 32 then (some false) else (if 0 ≤ (wrap64 ((x0.size:Int) - 1)) then (if (wrap64 ((x0.size:Int) - 1)) < (x0.size:Int) then (some ((bt x0 (wrap64 ((x0.size:Int) - 1))) != 32)) else (none)) else (none))) else (none)))
def spec_l7Plain.j1:Nat → ByteArray → Int → Bool → Option (Bool)
 | 0,_,_,_ => none
 | k + 1,x0,x3,x25 => if x25 = true then (some false) else (spec_l7Plain.l0 k x0 (wrap64 (x3 + 1)))
end
def spec_l7Plain.f (k:Nat) (a0:ByteArray):Option (Bool):=spec_l7Plain.l0 k a0 0
theorem spec_l7Plain.calls (k:Nat) (a0:ByteArray) (r:Bool) (w:World) (h:spec_l7Plain.f k a0 = some r) :
  Calls Tryd.prog 56 #[.string a0] w fun e w' => e = .returned (.bool r) ∧ Drawn0 w w':=by
 have H:(spec_l7Plain.l0 k a0 0) = some r:=h
 clear h
 have H':=Aside0.mk H
 clear H
 go_enter Tryd.func56,Tryd.ntmps56
 go_wp2
 go_loopg [3] k (fun kq v3 w' => ∃ (x3_1:Int),v3 = .int .i64 x3_1 ∧ Aside0 (spec_l7Plain.l0 kq a0 x3_1 = some r) ∧ Aside0 (kq ≤ k) ∧ Drawn0 w w')
 case atStart => exact ⟨(0),q12_,H',⟨Nat.le_refl _⟩,q16_⟩
 clear H'
 obtain ⟨x3_1,rfl,HA,HK1,⟨m1,rfl⟩⟩:=hrel
 cases gk with
 | zero => exact absurd HA.out (by simp [spec_l7Plain.l0])
 | succ k1 =>
  have H:=HA.out
  clear HA
  simp only [spec_l7Plain.l0] at H
  by_cases c2:x3_1 < (a0.size:Int)
  ·rw [if_pos c2] at H
   have c2b0:=decide_eq_true c2
   clear c2
   have HC3:=Aside0.mk H
   clear H
   go_upto_region 4 with (fail)
   go_cut [25] (fun v25 wc => ∃ (kq:Nat) (x25_2:Bool),v25 = .bool x25_2 ∧ Aside0 (spec_l7Plain.j1 kq a0 x3_1 x25_2 = some r) ∧ Aside0 (kq ≤ k1) ∧ Drawn0 w wc)
   case first =>
    have H:=HC3.out
    clear HC3
    by_cases c4:0 ≤ x3_1
    rotate_left
    ·rw [if_neg c4] at H
     exact absurd H (by simp)
    rw [if_pos c4] at H
    have c4b0:=decide_eq_true c4
    clear c4
    (first | rw [c4b0] | (simp only [i64_w,i32_w];rw [c4b0]) | skip)
    by_cases c6:(bt a0 x3_1) < 32
    ·rw [if_pos c6] at H
     have c6b0:=decide_eq_true c6
     clear c6
     have H':=Aside0.mk H
     clear H
     have p5:0 ≤ (x3_1:Int):=of_decide_eq_true q18_
     have q5:x3_1 < (a0.size:Int):=of_decide_eq_true q18_
     have hx5:=bt_at a0 x3_1
     replace p5:=eq_true p5
     replace q5:=eq_true q5
     go_wp2
     go_meet
     case rel => exact ⟨_,(true),q12_,H',⟨q17_⟩,q16_⟩
    rw [if_neg c6] at H
    have c6b0:=decide_eq_false c6
    clear c6
    by_cases c8:(bt a0 x3_1) > 126
    ·rw [if_pos c8] at H
     have c8b0:decide (126 < (bt a0 x3_1)) = true:=decide_eq_true c8
     clear c8
     have H':=Aside0.mk H
     clear H
     have p5:0 ≤ (x3_1:Int):=of_decide_eq_true q18_
     have q5:x3_1 < (a0.size:Int):=of_decide_eq_true q18_
     have hx5:=bt_at a0 x3_1
     replace p5:=eq_true p5
     replace q5:=eq_true q5
     have p7:0 ≤ (x3_1:Int):=of_decide_eq_true q18_
     have q7:x3_1 < (a0.size:Int):=of_decide_eq_true q18_
     have hx7:=bt_at a0 x3_1
     replace p7:=eq_true p7
     replace q7:=eq_true q7
     go_wp2
     go_meet
     case rel => exact ⟨_,(true),q12_,H',⟨q17_⟩,q16_⟩
    rw [if_neg c8] at H
    have c8b0:decide (126 < (bt a0 x3_1)) = false:=decide_eq_false c8
    clear c8
    have H':=Aside0.mk H
    clear H
    have p5:0 ≤ (x3_1:Int):=of_decide_eq_true q18_
    have q5:x3_1 < (a0.size:Int):=of_decide_eq_true q18_
    have hx5:=bt_at a0 x3_1
    replace p5:=eq_true p5
    replace q5:=eq_true q5
    have p7:0 ≤ (x3_1:Int):=of_decide_eq_true q18_
    have q7:x3_1 < (a0.size:Int):=of_decide_eq_true q18_
    have hx7:=bt_at a0 x3_1
    replace p7:=eq_true p7
    replace q7:=eq_true q7
    have p9:0 ≤ (x3_1:Int):=of_decide_eq_true q18_
    have q9:x3_1 < (a0.size:Int):=of_decide_eq_true q18_
    have hx9:=bt_at a0 x3_1
    replace p9:=eq_true p9
    replace q9:=eq_true q9
    go_wp2
    go_meet
    case rel => exact ⟨_,(((bt a0 x3_1) == 59)),q12_,H',⟨q17_⟩,q16_⟩
   clear HC3
   try clear c2
   try clear c2b0
   try clear p2
   try clear c4
   try clear c4b0
   try clear c5
   try clear p5 p5
   try clear q5 q5
   try clear hx5
   try clear c6
   try clear c6b0
   try clear p6
   try clear p7 p7
   try clear q7 q7
   try clear hx7
   try clear c8
   try clear c8b0
   try clear p9 p9
   try clear q9 q9
   try clear hx9
   obtain ⟨kq,x25_2,rfl,HA,HJ2,⟨mc2,rfl⟩⟩:=hcut
   cases kq with
   | zero => exact absurd HA.out (by simp [spec_l7Plain.j1])
   | succ kj2 =>
    have H:=HA.out
    clear HA
    simp only [spec_l7Plain.j1] at H
    by_cases c10:x25_2 = true
    ·subst c10
     rewrite [if_pos rfl] at H
     obtain rfl:=Option.some.inj H
     go_wp2
     go_ret
     exact ⟨q12_,q16_⟩
    replace c10:=Bool.eq_false_iff.mpr c10
    subst c10
    rewrite [if_neg (show ¬ (false = true) by decide)] at H
    have H':=Aside0.mk H
    clear H
    go_wp2
    go_roundg kj2
    case measure => have:=HK1.out;have:=HJ2.out;omega
    case rel => exact ⟨(wrap64 (x3_1 + 1)),q12_,H',⟨by have:=HK1.out;have:=HJ2.out;omega⟩,q16_⟩
  rw [if_neg c2] at H
  have c2b0:=decide_eq_false c2
  clear c2
  by_cases c11:a0.toList = ([]:List UInt8)
  ·rw [if_pos c11] at H
   have c11b0:(a0.toList == ([]:List UInt8)) = true:=beq_iff_eq.mpr c11
   have c11b1:(a0.toList != ([]:List UInt8)) = false:=bne_eq_false_iff_eq.mpr c11
   clear c11
   obtain rfl:=Option.some.inj H
   go_wp2
   go_ret
   exact ⟨q12_,q16_⟩
  rw [if_neg c11] at H
  have c11b0:(a0.toList == ([]:List UInt8)) = false:=beq_eq_false_iff_ne.mpr c11
  have c11b1:(a0.toList != ([]:List UInt8)) = true:=bne_iff_ne.mpr c11
  by_cases c12:0 < (a0.size:Int)
  rotate_left
  ·rw [if_neg c12] at H
   exact absurd H (by simp)
  rw [if_pos c12] at H
  have c12b0:=decide_eq_true c12
  have c12b1:decide (0 < a0.size) = true:=decide_eq_true (by omega)
  clear c12
  by_cases c14:(bt a0 0) = 32
  ·rw [if_pos c14] at H
   have c14b0:((bt a0 0) == 32) = true:=beq_iff_eq.mpr c14
   have c14b1:((bt a0 0) != 32) = false:=bne_eq_false_iff_eq.mpr c14
   clear c14
   obtain rfl:=Option.some.inj H
   have p13:0 ≤ (0:Int):=(by omega)
   have q13:0 < a0.size:=(by have:(0:Int) < (a0.size:Int):=of_decide_eq_true q18_;omega)
   have hx13:∀ h:0 < a0.size,((a0[0]'h).toNat:Int) = bt a0 0:=bt_at a0 0
   clear p13
   have qi13:(0 < (a0.size:Int)) = True:=eq_true (of_decide_eq_true q18_)
   replace q13:=eq_true q13
   go_wp2
   go_ret
   exact ⟨q12_,q16_⟩
  rw [if_neg c14] at H
  have c14b0:((bt a0 0) == 32) = false:=beq_eq_false_iff_ne.mpr c14
  have c14b1:((bt a0 0) != 32) = true:=bne_iff_ne.mpr c14
  obtain ⟨ji15,hji15⟩:∃ j_:Int,(wrap64 ((a0.size:Int) - 1)) = j_:=⟨_,rfl⟩
  (first | rewrite [hji15] at H | simp only [hji15] at H)
  have hji15w:(IntKind.i64.wrap ((a0.size:Int) - 1)) = ji15:=(i64_w _).trans hji15
  by_cases c16:0 ≤ (ji15)
  rotate_left
  ·rw [if_neg c16] at H
   exact absurd H (by simp)
  rw [if_pos c16] at H
  have c16b0:=decide_eq_true c16
  clear c16
  by_cases c17:(ji15) < (a0.size:Int)
  rotate_left
  ·rw [if_neg c17] at H
   exact absurd H (by simp)
  rw [if_pos c17] at H
  have c17b0:=decide_eq_true c17
  clear c17
  obtain rfl:=Option.some.inj H
  have p13:0 ≤ (0:Int):=(by omega)
  have q13:0 < a0.size:=(by have:(0:Int) < (a0.size:Int):=of_decide_eq_true q18_;omega)
  have hx13:∀ h:0 < a0.size,((a0[0]'h).toNat:Int) = bt a0 0:=bt_at a0 0
  clear p13
  have qi13:(0 < (a0.size:Int)) = True:=eq_true (of_decide_eq_true q18_)
  replace q13:=eq_true q13
  have p18:0 ≤ ((ji15):Int):=of_decide_eq_true q18_
  have q18:(ji15) < (a0.size:Int):=of_decide_eq_true q18_
  have hx18:=bt_at a0 (ji15)
  replace p18:=eq_true p18
  replace q18:=eq_true q18
  go_wp2
  go_ret
  exact ⟨by first | rfl | (simp;done) | (simp only [← hji15] <;> (first | rfl | (simp;done))) | (simp [*];done) | (simp;decide +kernel) | (simp [wrap64];done) | (simp [bne];done),q16_⟩
mutual
def spec_l7Args.l0:Nat → ByteArray → Int → Option (Bool)
 | 0,_,_ => none
 | k + 1,x0,x3 => if (wrap64 (x3 + 1)) < (x0.size:Int) then (if 0 ≤ x3 then (if x3 < (x0.size:Int) then (if (bt x0 x3) = 32 then (if 0 ≤ (wrap64 (x3 + 1)) then (if (bt x0 (wrap64 (x3 + 1))) = 32 then (spec_l7Args.j1 k x0 x3 true) else (if (bt x0 (wrap64 (x3 + 1))) = 44 then (spec_l7Args.j1 k x0 x3 true) else (if (bt x0 x3) = 44 then (spec_l7Args.j1 k x0 x3 ((bt x0 (wrap64 (x3 + 1))) == 32)) else (spec_l7Args.j1 k x0 x3 false)))) else (none)) else (if (bt x0 x3) = 44 then (if 0 ≤ (wrap64 (x3 + 1)) then (spec_l7Args.j1 k x0 x3 ((bt x0 (wrap64 (x3 + 1))) == 32)) else (none)) else (spec_l7Args.j1 k x0 x3 false))) else (none)) else (none)) else ((spec_l7Plain.f k x0).bind fun t167 => (some t167))
def spec_l7Args.j1:Nat → ByteArray → Int → Bool → Option (Bool)
 | 0,_,_,_ => none
 | k + 1,x0,x3,x41 => if x41 = true then (some false) else (spec_l7Args.l0 k x0 (wrap64 (x3 + 1)))
end
def spec_l7Args.f (k:Nat) (a0:ByteArray):Option (Bool):=spec_l7Args.l0 k a0 0
theorem spec_l7Args.calls (k:Nat) (a0:ByteArray) (r:Bool) (w:World) (h:spec_l7Args.f k a0 = some r) :
  Calls Tryd.prog 33 #[.string a0] w fun e w' => e = .returned (.bool r) ∧ Drawn0 w w':=by
 have H:(spec_l7Args.l0 k a0 0) = some r:=h
 clear h
 have H':=Aside0.mk H
 clear H
 go_enter Tryd.func33,Tryd.ntmps33
 go_wp2
 go_loopg [3] k (fun kq v3 w' => ∃ (x3_1:Int),v3 = .int .i64 x3_1 ∧ Aside0 (spec_l7Args.l0 kq a0 x3_1 = some r) ∧ Aside0 (kq ≤ k) ∧ Drawn0 w w')
 case atStart => exact ⟨(0),q12_,H',⟨Nat.le_refl _⟩,q16_⟩
 clear H'
 obtain ⟨x3_1,rfl,HA,HK1,⟨m1,rfl⟩⟩:=hrel
 cases gk with
 | zero => exact absurd HA.out (by simp [spec_l7Args.l0])
 | succ k1 =>
  have H:=HA.out
  clear HA
  simp only [spec_l7Args.l0] at H
  by_cases c2:(wrap64 (x3_1 + 1)) < (a0.size:Int)
  ·rw [if_pos c2] at H
   have c2b0:=decide_eq_true c2
   clear c2
   have HC3:=Aside0.mk H
   clear H
   go_upto_region 4 with (fail)
   go_cut [41] (fun v41 wc => ∃ (kq:Nat) (x41_2:Bool),v41 = .bool x41_2 ∧ Aside0 (spec_l7Args.j1 kq a0 x3_1 x41_2 = some r) ∧ Aside0 (kq ≤ k1) ∧ Drawn0 w wc)
   case first =>
    have H:=HC3.out
    clear HC3
    by_cases c4:0 ≤ x3_1
    rotate_left
    ·rw [if_neg c4] at H
     exact absurd H (by simp)
    rw [if_pos c4] at H
    have c4b0:=decide_eq_true c4
    clear c4
    (first | rw [c4b0] | (simp only [i64_w,i32_w];rw [c4b0]) | skip)
    by_cases c5:x3_1 < (a0.size:Int)
    rotate_left
    ·rw [if_neg c5] at H
     exact absurd H (by simp)
    rw [if_pos c5] at H
    have c5b0:=decide_eq_true c5
    clear c5
    by_cases c7:(bt a0 x3_1) = 32
    ·rw [if_pos c7] at H
     have c7b0:((bt a0 x3_1) == 32) = true:=beq_iff_eq.mpr c7
     have c7b1:((bt a0 x3_1) != 32) = false:=bne_eq_false_iff_eq.mpr c7
     clear c7
     obtain ⟨ji8,hji8⟩:∃ j_:Int,(wrap64 (x3_1 + 1)) = j_:=⟨_,rfl⟩
     (first | rewrite [hji8] at H | simp only [hji8] at H)
     (try rw [hji8] at c2b0)
     have hji8w:(IntKind.i64.wrap (x3_1 + 1)) = ji8:=(i64_w _).trans hji8
     by_cases c9:0 ≤ (ji8)
     rotate_left
     ·rw [if_neg c9] at H
      exact absurd H (by simp)
     rw [if_pos c9] at H
     have c9b0:=decide_eq_true c9
     clear c9
     by_cases c11:(bt a0 (ji8)) = 32
     ·rw [if_pos c11] at H
      have c11b0:((bt a0 (ji8)) == 32) = true:=beq_iff_eq.mpr c11
      have c11b1:((bt a0 (ji8)) != 32) = false:=bne_eq_false_iff_eq.mpr c11
      clear c11
      have H':=Aside0.mk H
      clear H
      have p6:0 ≤ (x3_1:Int):=of_decide_eq_true q18_
      have q6:x3_1 < (a0.size:Int):=of_decide_eq_true q18_
      have hx6:=bt_at a0 x3_1
      replace p6:=eq_true p6
      replace q6:=eq_true q6
      have p10:0 ≤ ((ji8):Int):=of_decide_eq_true q18_
      have q10:(ji8) < (a0.size:Int):=of_decide_eq_true q18_
      have hx10:=bt_at a0 (ji8)
      replace p10:=eq_true p10
      replace q10:=eq_true q10
      go_wp2
      go_meet
      case rel => exact ⟨_,(true),q12_,q11_,⟨q17_⟩,q16_⟩
     rw [if_neg c11] at H
     have c11b0:((bt a0 (ji8)) == 32) = false:=beq_eq_false_iff_ne.mpr c11
     have c11b1:((bt a0 (ji8)) != 32) = true:=bne_iff_ne.mpr c11
     by_cases c13:(bt a0 (ji8)) = 44
     ·rw [if_pos c13] at H
      have c13b0:((bt a0 (ji8)) == 44) = true:=beq_iff_eq.mpr c13
      have c13b1:((bt a0 (ji8)) != 44) = false:=bne_eq_false_iff_eq.mpr c13
      clear c13
      have H':=Aside0.mk H
      clear H
      have p6:0 ≤ (x3_1:Int):=of_decide_eq_true q18_
      have q6:x3_1 < (a0.size:Int):=of_decide_eq_true q18_
      have hx6:=bt_at a0 x3_1
      replace p6:=eq_true p6
      replace q6:=eq_true q6
      have p10:0 ≤ ((ji8):Int):=of_decide_eq_true q18_
      have q10:(ji8) < (a0.size:Int):=of_decide_eq_true q18_
      have hx10:=bt_at a0 (ji8)
      replace p10:=eq_true p10
      replace q10:=eq_true q10
      have p12:0 ≤ ((ji8):Int):=of_decide_eq_true q18_
      have q12:(ji8) < (a0.size:Int):=of_decide_eq_true q18_
      have hx12:=bt_at a0 (ji8)
      replace p12:=eq_true p12
      replace q12:=eq_true q12
      go_wp2
      go_meet
      case rel => exact ⟨_,(true),q12_,q11_,⟨q17_⟩,q16_⟩
     rw [if_neg c13] at H
     have c13b0:((bt a0 (ji8)) == 44) = false:=beq_eq_false_iff_ne.mpr c13
     have c13b1:((bt a0 (ji8)) != 44) = true:=bne_iff_ne.mpr c13
     by_cases c15:(bt a0 x3_1) = 44
     ·rw [if_pos c15] at H
      have c15b0:((bt a0 x3_1) == 44) = true:=beq_iff_eq.mpr c15
      have c15b1:((bt a0 x3_1) != 44) = false:=bne_eq_false_iff_eq.mpr c15
      clear c15
      have H':=Aside0.mk H
      clear H
      have p6:0 ≤ (x3_1:Int):=of_decide_eq_true q18_
      have q6:x3_1 < (a0.size:Int):=of_decide_eq_true q18_
      have hx6:=bt_at a0 x3_1
      replace p6:=eq_true p6
      replace q6:=eq_true q6
      have p10:0 ≤ ((ji8):Int):=of_decide_eq_true q18_
      have q10:(ji8) < (a0.size:Int):=of_decide_eq_true q18_
      have hx10:=bt_at a0 (ji8)
      replace p10:=eq_true p10
      replace q10:=eq_true q10
      have p12:0 ≤ ((ji8):Int):=of_decide_eq_true q18_
      have q12:(ji8) < (a0.size:Int):=of_decide_eq_true q18_
      have hx12:=bt_at a0 (ji8)
      replace p12:=eq_true p12
      replace q12:=eq_true q12
      have p14:0 ≤ (x3_1:Int):=of_decide_eq_true q18_
      have q14:x3_1 < (a0.size:Int):=of_decide_eq_true q18_
      have hx14:=bt_at a0 x3_1
      replace p14:=eq_true p14
      replace q14:=eq_true q14
      have p16:0 ≤ ((ji8):Int):=of_decide_eq_true q18_
      have q16:(ji8) < (a0.size:Int):=of_decide_eq_true q18_
      have hx16:=bt_at a0 (ji8)
      replace p16:=eq_true p16
      replace q16:=eq_true q16
      go_wp2
      go_meet
      case rel => exact ⟨_,(((bt a0 (ji8)) == 32)),(by first | rfl | (simp;done) | (simp only [← hji8] <;> (first | rfl | (simp;done))) | (simp [*];done) | (simp;decide +kernel) | (simp [wrap64];done) | (simp [bne];done)),q11_,⟨q17_⟩,q16_⟩
     rw [if_neg c15] at H
     have c15b0:((bt a0 x3_1) == 44) = false:=beq_eq_false_iff_ne.mpr c15
     have c15b1:((bt a0 x3_1) != 44) = true:=bne_iff_ne.mpr c15
     have H':=Aside0.mk H
     clear H
     have p6:0 ≤ (x3_1:Int):=of_decide_eq_true q18_
     have q6:x3_1 < (a0.size:Int):=of_decide_eq_true q18_
     have hx6:=bt_at a0 x3_1
     replace p6:=eq_true p6
     replace q6:=eq_true q6
     have p10:0 ≤ ((ji8):Int):=of_decide_eq_true q18_
     have q10:(ji8) < (a0.size:Int):=of_decide_eq_true q18_
     have hx10:=bt_at a0 (ji8)
     replace p10:=eq_true p10
     replace q10:=eq_true q10
     have p12:0 ≤ ((ji8):Int):=of_decide_eq_true q18_
     have q12:(ji8) < (a0.size:Int):=of_decide_eq_true q18_
     have hx12:=bt_at a0 (ji8)
     replace p12:=eq_true p12
     replace q12:=eq_true q12
     have p14:0 ≤ (x3_1:Int):=of_decide_eq_true q18_
     have q14:x3_1 < (a0.size:Int):=of_decide_eq_true q18_
     have hx14:=bt_at a0 x3_1
     replace p14:=eq_true p14
     replace q14:=eq_true q14
     go_wp2
     go_meet
     case rel => exact ⟨_,(false),q12_,q11_,⟨q17_⟩,q16_⟩
    rw [if_neg c7] at H
    have c7b0:((bt a0 x3_1) == 32) = false:=beq_eq_false_iff_ne.mpr c7
    have c7b1:((bt a0 x3_1) != 32) = true:=bne_iff_ne.mpr c7
    by_cases c18:(bt a0 x3_1) = 44
    ·rw [if_pos c18] at H
     have c18b0:((bt a0 x3_1) == 44) = true:=beq_iff_eq.mpr c18
     have c18b1:((bt a0 x3_1) != 44) = false:=bne_eq_false_iff_eq.mpr c18
     clear c18
     obtain ⟨ji19,hji19⟩:∃ j_:Int,(wrap64 (x3_1 + 1)) = j_:=⟨_,rfl⟩
     (first | rewrite [hji19] at H | simp only [hji19] at H)
     (try rw [hji19] at c2b0)
     have hji19w:(IntKind.i64.wrap (x3_1 + 1)) = ji19:=(i64_w _).trans hji19
     by_cases c20:0 ≤ (ji19)
     rotate_left
     ·rw [if_neg c20] at H
      exact absurd H (by simp)
     rw [if_pos c20] at H
     have c20b0:=decide_eq_true c20
     clear c20
     have H':=Aside0.mk H
     clear H
     have p6:0 ≤ (x3_1:Int):=of_decide_eq_true q18_
     have q6:x3_1 < (a0.size:Int):=of_decide_eq_true q18_
     have hx6:=bt_at a0 x3_1
     replace p6:=eq_true p6
     replace q6:=eq_true q6
     have p17:0 ≤ (x3_1:Int):=of_decide_eq_true q18_
     have q17:x3_1 < (a0.size:Int):=of_decide_eq_true q18_
     have hx17:=bt_at a0 x3_1
     replace p17:=eq_true p17
     replace q17:=eq_true q17
     have p21:0 ≤ ((ji19):Int):=of_decide_eq_true q18_
     have q21:(ji19) < (a0.size:Int):=of_decide_eq_true q18_
     have hx21:=bt_at a0 (ji19)
     replace p21:=eq_true p21
     replace q21:=eq_true q21
     go_wp2
     go_meet
     case rel => exact ⟨_,(((bt a0 (ji19)) == 32)),(by first | rfl | (simp;done) | (simp only [← hji19] <;> (first | rfl | (simp;done))) | (simp [*];done) | (simp;decide +kernel) | (simp [wrap64];done) | (simp [bne];done)),(by first | with_reducible exact H' | (have H2_:=H';simp only [← hji19] at H2_ ⊢;with_reducible exact H2_) | exact H'),⟨q17_⟩,q16_⟩
    rw [if_neg c18] at H
    have c18b0:((bt a0 x3_1) == 44) = false:=beq_eq_false_iff_ne.mpr c18
    have c18b1:((bt a0 x3_1) != 44) = true:=bne_iff_ne.mpr c18
    have H':=Aside0.mk H
    clear H
    have p6:0 ≤ (x3_1:Int):=of_decide_eq_true q18_
    have q6:x3_1 < (a0.size:Int):=of_decide_eq_true q18_
    have hx6:=bt_at a0 x3_1
    replace p6:=eq_true p6
    replace q6:=eq_true q6
    have p17:0 ≤ (x3_1:Int):=of_decide_eq_true q18_
    have q17:x3_1 < (a0.size:Int):=of_decide_eq_true q18_
    have hx17:=bt_at a0 x3_1
    replace p17:=eq_true p17
    replace q17:=eq_true q17
    go_wp2
    go_meet
    case rel => exact ⟨_,(false),q12_,H',⟨q17_⟩,q16_⟩
   clear HC3
   try clear c1
   try clear p1
   try clear q1
   try clear hx1
   try clear c2
   try clear c2b0
   try clear p2
   try clear q2
   try clear hx2
   try clear c3
   try clear c4
   try clear c4b0
   try clear c5
   try clear c5b0
   try clear p6 p6
   try clear q6 q6
   try clear hx6
   try clear c7
   try clear c7b0
   try clear c7b1
   try clear c9
   try clear c9b0
   try clear p10 p10
   try clear q10 q10
   try clear hx10
   try clear c11
   try clear c11b0
   try clear c11b1
   try clear p12 p12
   try clear q12 q12
   try clear hx12
   try clear c13
   try clear c13b0
   try clear c13b1
   try clear p14 p14
   try clear q14 q14
   try clear hx14
   try clear c15
   try clear c15b0
   try clear c15b1
   try clear p16 p16
   try clear q16 q16
   try clear hx16
   try clear p17 p17
   try clear q17 q17
   try clear hx17
   try clear c18
   try clear c18b0
   try clear c18b1
   try clear c20
   try clear c20b0
   try clear p21 p21
   try clear q21 q21
   try clear hx21
   obtain ⟨kq,x41_2,rfl,HA,HJ2,⟨mc2,rfl⟩⟩:=hcut
   cases kq with
   | zero => exact absurd HA.out (by simp [spec_l7Args.j1])
   | succ kj2 =>
    have H:=HA.out
    clear HA
    simp only [spec_l7Args.j1] at H
    by_cases c22:x41_2 = true
    ·subst c22
     rewrite [if_pos rfl] at H
     obtain rfl:=Option.some.inj H
     go_wp2
     go_ret
     exact ⟨q12_,q16_⟩
    replace c22:=Bool.eq_false_iff.mpr c22
    subst c22
    rewrite [if_neg (show ¬ (false = true) by decide)] at H
    have H':=Aside0.mk H
    clear H
    go_wp2
    go_roundg kj2
    case measure => have:=HK1.out;have:=HJ2.out;omega
    case rel => exact ⟨(wrap64 (x3_1 + 1)),q12_,H',⟨by have:=HK1.out;have:=HJ2.out;omega⟩,q16_⟩
  rw [if_neg c2] at H
  have c2b0:=decide_eq_false c2
  clear c2
  replace H:=Option.bind_eq_some_iff.mp H
  obtain ⟨t167,A230,H⟩:=H
  have A23:=Aside0.mk A230
  clear A230
  obtain rfl:=Option.some.inj H
  go_wp2_with (first | ((with_reducible refine gate_callee (f:=56) rfl ?_);refine goesL_ (some 43) rfl rfl Tryd.func56 (by kernel_rfl) rfl #[.string a0] rfl q7_ ?_;(with_reducible refine (spec_l7Plain.calls k1 a0 t167 _ A23.out).mono ?_);rintro e w' ⟨rfl,⟨nd,rfl⟩⟩;refine ⟨_,rfl,?_⟩))
  go_ret
  exact ⟨q12_,q16_⟩
def spec_l1Cut.l0:Nat → ByteArray → Int → Int → Option (ByteArray × ByteArray × Bool)
 | 0,_,_,_ => none
 | k + 1,x0,x1,x7 => if x7 < (x0.size:Int) then (if 0 ≤ x7 then (if (bt x0 x7) = x1 then (if x7 ≤ (x0.size:Int) then (if 0 ≤ (wrap64 (x7 + 1)) then (if (wrap64 (x7 + 1)) ≤ (x0.size:Int) then (some (x0.extract 0 (x7:Int).toNat,x0.extract ((wrap64 (x7 + 1)):Int).toNat x0.size,true)) else (none)) else (none)) else (none)) else (spec_l1Cut.l0 k x0 x1 (wrap64 (x7 + 1)))) else (none)) else (some (x0,(⟨#[]⟩:ByteArray),false))
def spec_l1Cut.f (k:Nat) (a0:ByteArray) (a1:Int):Option (ByteArray × ByteArray × Bool):=spec_l1Cut.l0 k a0 a1 0
theorem spec_l1Cut.calls (k:Nat) (a0:ByteArray) (a1:Int) (r1:ByteArray) (r2:ByteArray) (r3:Bool) (w:World) (h:spec_l1Cut.f k a0 a1 = some (r1,r2,r3)) :
  Calls Tryd.prog 34 #[.string a0,.int .u8 a1] w fun e w' => e = .returned (.tuple #[.string r1,.string r2,.bool r3]) ∧ Drawn0 w w':=by
 have H:(spec_l1Cut.l0 k a0 a1 0) = some (r1,r2,r3):=h
 clear h
 have H':=Aside0.mk H
 clear H
 go_enter Tryd.func34,Tryd.ntmps34
 go_wp2
 repeat (go_quiet (fail);try go_wp2)
 go_loopg [7] k (fun kq v7 w' => ∃ (x7_1:Int),v7 = .int .i64 x7_1 ∧ Aside0 (spec_l1Cut.l0 kq a0 a1 x7_1 = some (r1,r2,r3)) ∧ Aside0 (kq ≤ k) ∧ Drawn0 w w')
 case atStart => exact ⟨(0),q12_,H',⟨Nat.le_refl _⟩,q16_⟩
 clear H'
 try clear p2
 obtain ⟨x7_1,rfl,HA,HK1,⟨m1,rfl⟩⟩:=hrel
 cases gk with
 | zero => exact absurd HA.out (by simp [spec_l1Cut.l0])
 | succ k1 =>
  have H:=HA.out
  clear HA
  simp only [spec_l1Cut.l0] at H
  by_cases c3:x7_1 < (a0.size:Int)
  ·rw [if_pos c3] at H
   have c3b0:=decide_eq_true c3
   clear c3
   by_cases c4:0 ≤ x7_1
   rotate_left
   ·rw [if_neg c4] at H
    exact absurd H (by simp)
   rw [if_pos c4] at H
   have c4b0:=decide_eq_true c4
   clear c4
   by_cases c6:(bt a0 x7_1) = a1
   ·rw [if_pos c6] at H
    have c6b0:((bt a0 x7_1) == a1) = true:=beq_iff_eq.mpr c6
    have c6b1:((bt a0 x7_1) != a1) = false:=bne_eq_false_iff_eq.mpr c6
    clear c6
    have c7b0:=eq_true (of_decide_eq_true q18_:0 ≤ x7_1)
    by_cases c8:x7_1 ≤ (a0.size:Int)
    rotate_left
    ·rw [if_neg c8] at H
     exact absurd H (by simp)
    rw [if_pos c8] at H
    have c8b0:=eq_true c8
    have c8b1:=decide_eq_true c8
    clear c8
    obtain ⟨ji9,hji9⟩:∃ j_:Int,(wrap64 (x7_1 + 1)) = j_:=⟨_,rfl⟩
    (first | rewrite [hji9] at H | simp only [hji9] at H)
    have hji9w:(IntKind.i64.wrap (x7_1 + 1)) = ji9:=(i64_w _).trans hji9
    by_cases c10:0 ≤ (ji9)
    rotate_left
    ·rw [if_neg c10] at H
     exact absurd H (by simp)
    rw [if_pos c10] at H
    have c10b0:=eq_true c10
    have c10b1:=decide_eq_true c10
    clear c10
    by_cases c11:(ji9) ≤ (a0.size:Int)
    rotate_left
    ·rw [if_neg c11] at H
     exact absurd H (by simp)
    rw [if_pos c11] at H
    have c11b0:=eq_true c11
    have c11b1:=decide_eq_true c11
    clear c11
    simp only [Option.some.injEq,Prod.mk.injEq] at H
    obtain ⟨rfl,rfl,rfl⟩:=H
    have p5:0 ≤ (x7_1:Int):=of_decide_eq_true q18_
    have q5:x7_1 < (a0.size:Int):=of_decide_eq_true q18_
    have hx5:=bt_at a0 x7_1
    replace p5:=eq_true p5
    replace q5:=eq_true q5
    go_wp2
    repeat (go_quiet (fail);try go_wp2)
    go_ret3
    exact ⟨by first | rfl | (simp;done) | (simp only [← hji9] <;> (first | rfl | (simp;done))) | (simp [*];done) | (simp;decide +kernel) | (simp [wrap64];done) | (simp [bne];done),q16_⟩
   rw [if_neg c6] at H
   have c6b0:((bt a0 x7_1) == a1) = false:=beq_eq_false_iff_ne.mpr c6
   have c6b1:((bt a0 x7_1) != a1) = true:=bne_iff_ne.mpr c6
   have H':=Aside0.mk H
   clear H
   have p5:0 ≤ (x7_1:Int):=of_decide_eq_true q18_
   have q5:x7_1 < (a0.size:Int):=of_decide_eq_true q18_
   have hx5:=bt_at a0 x7_1
   replace p5:=eq_true p5
   replace q5:=eq_true q5
   go_wp2
   repeat (go_quiet (fail);try go_wp2)
   go_roundg k1
   case measure => have:=HK1.out;omega
   case rel => exact ⟨(wrap64 (x7_1 + 1)),q12_,H',⟨by have:=HK1.out;omega⟩,q16_⟩
  rw [if_neg c3] at H
  have c3b0:=decide_eq_false c3
  clear c3
  simp only [Option.some.injEq,Prod.mk.injEq] at H
  obtain ⟨rfl,rfl,rfl⟩:=H
  go_wp2
  repeat (go_quiet (fail);try go_wp2)
  go_ret3
  exact ⟨q12_,q16_⟩
end Go.Proofs.YtoiiaklmjpiejaaDoor.QFnArgs
