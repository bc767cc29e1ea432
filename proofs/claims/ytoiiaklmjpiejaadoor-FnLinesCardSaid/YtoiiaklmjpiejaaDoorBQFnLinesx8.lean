/- The machine's side of a law,written by a program of this session for this claim. -/
import Derived.Test.YtoiiaklmjpiejaaDoorBQq
import Derived.Test.YtoiiaklmjpiejaaDoorBQFnLinesx0
import Derived.Test.YtoiiaklmjpiejaaDoorBQFnLinesx7
namespace Go.Proofs.YtoiiaklmjpiejaaDoor.QFnLines
open Go.Proofs.YtoiiaklmjpiejaaDoor.Qq
open Go.RowKit Go.Proofs.YtoiiaklmjpiejaaDoor.LibX Go.Proofs.YtoiiaklmjpiejaaDoor.LibE Go.Proofs.YtoiiaklmjpiejaaDoor.LibCB Go.Proofs.YtoiiaklmjpiejaaDoor.LibT Go.Proofs.YtoiiaklmjpiejaaDoorW.PrintWords Go.Proofs.YtoiiaklmjpiejaaDoorW.PrintLast Go.Proofs.YtoiiaklmjpiejaaDoorW.PrintMore
attribute [local go_sem] max2_int min2_int max_two min_two max_three min_three max_four min_four   -- for this text's walks alone
set_option maxHeartbeats 8000000
set_option maxRecDepth 100000
set_option linter.unusedVariables false
set_option linter.unusedSimpArgs false
mutual
def spec_NameOk.j0:Nat → ByteArray → Bool → Option (Bool)
 | 0,_,_ => none
 | k + 1,x0,x17 => if x17 = true then (some false) else (spec_NameOk.l0 k x0 0)
def spec_NameOk.l0:Nat → ByteArray → Int → Option (Bool)
 | 0,_,_ => none
 | k + 1,x0,x3 => if x3 < (x0.size:Int) then (if 0 ≤ x3 then ((spec_l1Letter.f (bt x0 x3)).bind fun t194 => (if t194 = true then (spec_NameOk.j2 k x0 x3 false) else (if (bt x0 x3) ≥ 48 then (spec_NameOk.j2 k x0 x3 (!(decide ((bt x0 x3) ≤ 57)))) else (spec_NameOk.j2 k x0 x3 (!false))))) else (none)) else (some true)
def spec_NameOk.j2:Nat → ByteArray → Int → Bool → Option (Bool)
 | 0,_,_,_ => none
 | k + 1,x0,x3,x41 => if x41 = true then (some false) else (spec_NameOk.l0 k x0 (wrap64 (x3 + 1)))
end
def spec_NameOk.f (k:Nat) (a0:ByteArray):Option (Bool):=if (a0.size:Int) < 1 then (spec_NameOk.j0 k a0 true) else (if (a0.size:Int) > 16 then (spec_NameOk.j0 k a0 true) else (if 0 < (a0.size:Int) then ((spec_l1Letter.f (bt a0 0)).bind fun t193 => (spec_NameOk.j0 k a0 (!t193))) else (none)))
theorem spec_NameOk.calls (k:Nat) (a0:ByteArray) (r:Bool) (w:World) (h:spec_NameOk.f k a0 = some r) :
  Calls Tryd.prog 40 #[.string a0] w fun e w' => e = .returned (.bool r) ∧ Drawn0 w w':=by
 have H:=h;unfold spec_NameOk.f at H
 clear h
 have HC2:=Aside0.mk H
 clear H
 go_enter Tryd.func40,Tryd.ntmps40
 go_upto_region 1 with (fail)
 go_cut [17] (fun v17 wc => ∃ (kq:Nat) (x17_1:Bool),v17 = .bool x17_1 ∧ Aside0 (spec_NameOk.j0 kq a0 x17_1 = some r) ∧ Aside0 (kq ≤ k) ∧ Drawn0 w wc)
 case first =>
  have H:=HC2.out
  clear HC2
  by_cases c3:(a0.size:Int) < 1
  ·rw [if_pos c3] at H
   have c3b0:=decide_eq_true c3
   have c3b1:decide (a0.size < 1) = true:=decide_eq_true (by omega)
   clear c3
   (first | rw [c3b0] | (simp only [i64_w,i32_w];rw [c3b0]) | rw [c3b9] | skip)
   have H':=Aside0.mk H
   clear H
   go_wp2
   go_meet
   case rel => exact ⟨_,(true),q101_,H',⟨q115_⟩,q108_⟩
  rw [if_neg c3] at H
  have c3b0:=decide_eq_false c3
  have c3b1:decide (a0.size < 1) = false:=decide_eq_false (by omega)
  clear c3
  (first | rw [c3b0] | (simp only [i64_w,i32_w];rw [c3b0]) | rw [c3b9] | skip)
  by_cases c4:(a0.size:Int) > 16
  ·rw [if_pos c4] at H
   have c4b0:decide (16 < (a0.size:Int)) = true:=decide_eq_true c4
   have c4b1:decide (16 < a0.size) = true:=decide_eq_true (by omega)
   clear c4
   have H':=Aside0.mk H
   clear H
   go_wp2
   go_meet
   case rel => exact ⟨_,(true),q101_,H',⟨q115_⟩,q108_⟩
  rw [if_neg c4] at H
  have c4b0:decide (16 < (a0.size:Int)) = false:=decide_eq_false c4
  have c4b1:decide (16 < a0.size) = false:=decide_eq_false (by omega)
  clear c4
  by_cases c5:0 < (a0.size:Int)
  rotate_left
  ·rw [if_neg c5] at H
   exact absurd H (by simp)
  rw [if_pos c5] at H
  have c5b0:=decide_eq_true c5
  have c5b1:decide (0 < a0.size) = true:=decide_eq_true (by omega)
  clear c5
  replace H:=Option.bind_eq_some_iff.mp H
  obtain ⟨t193,A70,H⟩:=H
  have A7:=Aside0.mk A70
  clear A70
  have H':=Aside0.mk H
  clear H
  have p6:0 ≤ (0:Int):=(by omega)
  have q6:0 < a0.size:=(by have:(0:Int) < (a0.size:Int):=of_decide_eq_true q113_;omega)
  have hx6:∀ h:0 < a0.size,((a0[0]'h).toNat:Int) = bt a0 0:=bt_at a0 0
  clear p6
  have qi6:(0 < (a0.size:Int)) = True:=eq_true (of_decide_eq_true q113_)
  replace q6:=eq_true q6
  go_wp2_with (first | (go_at_call 61;(with_reducible refine (spec_l1Letter.calls (bt a0 0) t193 _ A7.out).mono ?_);rintro e w' ⟨rfl,⟨nd,rfl⟩⟩))
  go_meet
  case rel => exact ⟨_,(!t193),q101_,H',⟨q115_⟩,q108_⟩
 clear HC2
 try clear p2
 try clear c3
 try clear c3b0
 try clear c3b1
 try clear c4
 try clear c4b0
 try clear c4b1
 try clear c5
 try clear c5b0
 try clear c5b1
 try clear p6 p6
 try clear q6 q6
 try clear hx6
 try clear qi6
 obtain ⟨kq,x17_1,rfl,HA,HJ1,⟨mc1,rfl⟩⟩:=hcut
 cases kq with
 | zero => exact absurd HA.out (by simp [spec_NameOk.j0])
 | succ kj1 =>
  have H:=HA.out
  clear HA
  simp only [spec_NameOk.j0] at H
  by_cases c8:x17_1 = true
  ·subst c8
   rewrite [if_pos rfl] at H
   obtain rfl:=Option.some.inj H
   go_wp2
   go_ret
   exact ⟨q101_,q108_⟩
  replace c8:=Bool.eq_false_iff.mpr c8
  subst c8
  rewrite [if_neg (show ¬ (false = true) by decide)] at H
  have H':=Aside0.mk H
  clear H
  go_wp2
  go_loopg [3] kj1 (fun kq v3 w' => ∃ (x3_2:Int),v3 = .int .i64 x3_2 ∧ Aside0 (spec_NameOk.l0 kq a0 x3_2 = some r) ∧ Aside0 (kq ≤ kj1) ∧ Drawn0 w w')
  case atStart => exact ⟨(0),q101_,H',⟨Nat.le_refl _⟩,q108_⟩
  clear H'
  try clear c1
  try clear p2 p2
  try clear c3
  try clear c3b0
  try clear c3b1
  try clear c4
  try clear c4b0
  try clear c4b1
  try clear c5
  try clear c5b0
  try clear c5b1
  try clear p6 p6
  try clear q6 q6
  try clear hx6
  try clear qi6
  try clear c8
  obtain ⟨x3_2,rfl,HA,HK2,⟨m2,rfl⟩⟩:=hrel
  cases gk with
  | zero => exact absurd HA.out (by simp [spec_NameOk.l0])
  | succ k2 =>
   have H:=HA.out
   clear HA
   simp only [spec_NameOk.l0] at H
   by_cases c9:x3_2 < (a0.size:Int)
   ·rw [if_pos c9] at H
    have c9b0:=decide_eq_true c9
    clear c9
    have HC10:=Aside0.mk H
    clear H
    go_upto_region 6 with (fail)
    go_cut [41] (fun v41 wc => ∃ (kq:Nat) (x41_9:Bool),v41 = .bool x41_9 ∧ Aside0 (spec_NameOk.j2 kq a0 x3_2 x41_9 = some r) ∧ Aside0 (kq ≤ k2) ∧ Drawn0 w wc)
    case first =>
     have H:=HC10.out
     clear HC10
     by_cases c11:0 ≤ x3_2
     rotate_left
     ·rw [if_neg c11] at H
      exact absurd H (by simp)
     rw [if_pos c11] at H
     have c11b0:=decide_eq_true c11
     clear c11
     (first | rw [c11b0] | (simp only [i64_w,i32_w];rw [c11b0]) | rw [c11b9] | skip)
     replace H:=Option.bind_eq_some_iff.mp H
     obtain ⟨t194,A130,H⟩:=H
     have A13:=Aside0.mk A130
     clear A130
     by_cases c14:t194 = true
     ·subst c14
      rewrite [if_pos rfl] at H
      have H':=Aside0.mk H
      clear H
      have p12:0 ≤ (x3_2:Int):=of_decide_eq_true q113_
      have q12:x3_2 < (a0.size:Int):=of_decide_eq_true q113_
      have hx12:=bt_at a0 x3_2
      replace p12:=eq_true p12
      replace q12:=eq_true q12
      go_wp2_with (first | ((with_reducible refine gate_callee (f:=61) rfl ?_);refine goesL_ (some 27) rfl rfl Tryd.func61 (by kernel_rfl) rfl #[.int .u8 (bt a0 x3_2)] rfl q82_ ?_;(with_reducible refine (spec_l1Letter.calls (bt a0 x3_2) true _ A13.out).mono ?_);rintro e w' ⟨rfl,⟨nd,rfl⟩⟩;refine ⟨_,rfl,?_⟩))
      go_meet
      case rel => exact ⟨_,(false),q101_,H',⟨q106_⟩,q108_⟩
     replace c14:=Bool.eq_false_iff.mpr c14
     subst c14
     rewrite [if_neg (show ¬ (false = true) by decide)] at H
     by_cases c16:(bt a0 x3_2) ≥ 48
     ·rw [if_pos c16] at H
      have c16b0:decide (48 ≤ (bt a0 x3_2)) = true:=decide_eq_true c16
      clear c16
      have H':=Aside0.mk H
      clear H
      have p12:0 ≤ (x3_2:Int):=of_decide_eq_true q113_
      have q12:x3_2 < (a0.size:Int):=of_decide_eq_true q113_
      have hx12:=bt_at a0 x3_2
      replace p12:=eq_true p12
      replace q12:=eq_true q12
      go_wp2_with (first | ((with_reducible refine gate_callee (f:=61) rfl ?_);refine goesL_ (some 27) rfl rfl Tryd.func61 (by kernel_rfl) rfl #[.int .u8 (bt a0 x3_2)] rfl q82_ ?_;(with_reducible refine (spec_l1Letter.calls (bt a0 x3_2) false _ A13.out).mono ?_);rintro e w' ⟨rfl,⟨nd,rfl⟩⟩;refine ⟨_,rfl,?_⟩;have p15:0 ≤ (x3_2:Int):=of_decide_eq_true q113_;have q15:x3_2 < (a0.size:Int):=of_decide_eq_true q113_;have hx15:=bt_at a0 x3_2;replace p15:=eq_true p15;replace q15:=eq_true q15;have p17:0 ≤ (x3_2:Int):=of_decide_eq_true q113_;have q17:x3_2 < (a0.size:Int):=of_decide_eq_true q113_;have hx17:=bt_at a0 x3_2;replace p17:=eq_true p17;replace q17:=eq_true q17))
      go_meet
      case rel => exact ⟨_,(!(decide ((bt a0 x3_2) ≤ 57))),q101_,H',⟨q106_⟩,q108_⟩
     rw [if_neg c16] at H
     have c16b0:decide (48 ≤ (bt a0 x3_2)) = false:=decide_eq_false c16
     clear c16
     have H':=Aside0.mk H
     clear H
     have p12:0 ≤ (x3_2:Int):=of_decide_eq_true q113_
     have q12:x3_2 < (a0.size:Int):=of_decide_eq_true q113_
     have hx12:=bt_at a0 x3_2
     replace p12:=eq_true p12
     replace q12:=eq_true q12
     go_wp2_with (first | ((with_reducible refine gate_callee (f:=61) rfl ?_);refine goesL_ (some 27) rfl rfl Tryd.func61 (by kernel_rfl) rfl #[.int .u8 (bt a0 x3_2)] rfl q82_ ?_;(with_reducible refine (spec_l1Letter.calls (bt a0 x3_2) false _ A13.out).mono ?_);rintro e w' ⟨rfl,⟨nd,rfl⟩⟩;refine ⟨_,rfl,?_⟩;have p15:0 ≤ (x3_2:Int):=of_decide_eq_true q113_;have q15:x3_2 < (a0.size:Int):=of_decide_eq_true q113_;have hx15:=bt_at a0 x3_2;replace p15:=eq_true p15;replace q15:=eq_true q15))
     go_meet
     case rel => exact ⟨_,(!false),q101_,H',⟨q106_⟩,q108_⟩
    clear HC10
    try clear c1
    try clear p1
    try clear q1
    try clear hx1
    try clear p2 p2
    try clear c3
    try clear c3b0
    try clear c3b1
    try clear c4
    try clear c4b0
    try clear c4b1
    try clear c5
    try clear c5b0
    try clear c5b1
    try clear c6
    try clear p6 p6
    try clear q6 q6
    try clear hx6
    try clear qi6
    try clear c8
    try clear c9
    try clear c9b0
    try clear c11
    try clear c11b0
    try clear p12 p12
    try clear q12 q12
    try clear hx12
    try clear c14
    try clear p15 p15
    try clear q15 q15
    try clear hx15
    try clear c16
    try clear c16b0
    try clear p17 p17
    try clear q17 q17
    try clear hx17
    obtain ⟨kq,x41_9,rfl,HA,HJ9,⟨mc9,rfl⟩⟩:=hcut
    cases kq with
    | zero => exact absurd HA.out (by simp [spec_NameOk.j2])
    | succ kj9 =>
     have H:=HA.out
     clear HA
     simp only [spec_NameOk.j2] at H
     by_cases c18:x41_9 = true
     ·subst c18
      rewrite [if_pos rfl] at H
      obtain rfl:=Option.some.inj H
      go_wp2
      go_ret
      exact ⟨q101_,q108_⟩
     replace c18:=Bool.eq_false_iff.mpr c18
     subst c18
     rewrite [if_neg (show ¬ (false = true) by decide)] at H
     have H':=Aside0.mk H
     clear H
     go_wp2
     go_roundg kj9
     case measure => have:=HJ1.out;have:=HK2.out;have:=HJ9.out;omega
     case rel => exact ⟨(wrap64 (x3_2 + 1)),q101_,H',⟨by have:=HJ1.out;have:=HK2.out;have:=HJ9.out;omega⟩,q108_⟩
   rw [if_neg c9] at H
   have c9b0:=decide_eq_false c9
   clear c9
   obtain rfl:=Option.some.inj H
   go_wp2
   go_ret
   exact ⟨q101_,q108_⟩
def spec_l7Op.l0:Nat → ByteArray → Int → Option (Bool)
 | 0,_,_ => none
 | k + 1,x0,x3 => if x3 < (x0.size:Int) then (if 0 ≤ x3 then (if (bt x0 x3) < 97 then (some false) else (if (bt x0 x3) > 122 then (some false) else (spec_l7Op.l0 k x0 (wrap64 (x3 + 1))))) else (none)) else (some (decide ((x0.size:Int) ≤ 10)))
def spec_l7Op.f (k:Nat) (a0:ByteArray):Option (Bool):=spec_l7Op.l0 k a0 0
theorem spec_l7Op.calls (k:Nat) (a0:ByteArray) (r:Bool) (w:World) (h:spec_l7Op.f k a0 = some r) :
  Calls Tryd.prog 41 #[.string a0] w fun e w' => e = .returned (.bool r) ∧ Drawn0 w w':=by
 have H:(spec_l7Op.l0 k a0 0) = some r:=h
 clear h
 have H':=Aside0.mk H
 clear H
 go_enter Tryd.func41,Tryd.ntmps41
 go_wp2
 go_loopg [3] k (fun kq v3 w' => ∃ (x3_1:Int),v3 = .int .i64 x3_1 ∧ Aside0 (spec_l7Op.l0 kq a0 x3_1 = some r) ∧ Aside0 (kq ≤ k) ∧ Drawn0 w w')
 case atStart => exact ⟨(0),q101_,H',⟨Nat.le_refl _⟩,q108_⟩
 clear H'
 obtain ⟨x3_1,rfl,HA,HK1,⟨m1,rfl⟩⟩:=hrel
 cases gk with
 | zero => exact absurd HA.out (by simp [spec_l7Op.l0])
 | succ k1 =>
  have H:=HA.out
  clear HA
  simp only [spec_l7Op.l0] at H
  by_cases c2:x3_1 < (a0.size:Int)
  ·rw [if_pos c2] at H
   have c2b0:=decide_eq_true c2
   clear c2
   by_cases c3:0 ≤ x3_1
   rotate_left
   ·rw [if_neg c3] at H
    exact absurd H (by simp)
   rw [if_pos c3] at H
   have c3b0:=decide_eq_true c3
   clear c3
   by_cases c5:(bt a0 x3_1) < 97
   ·rw [if_pos c5] at H
    have c5b0:=decide_eq_true c5
    clear c5
    obtain rfl:=Option.some.inj H
    have p4:0 ≤ (x3_1:Int):=of_decide_eq_true q113_
    have q4:x3_1 < (a0.size:Int):=of_decide_eq_true q113_
    have hx4:=bt_at a0 x3_1
    replace p4:=eq_true p4
    replace q4:=eq_true q4
    go_wp2
    go_ret
    exact ⟨q101_,q108_⟩
   rw [if_neg c5] at H
   have c5b0:=decide_eq_false c5
   clear c5
   by_cases c7:(bt a0 x3_1) > 122
   ·rw [if_pos c7] at H
    have c7b0:decide (122 < (bt a0 x3_1)) = true:=decide_eq_true c7
    clear c7
    obtain rfl:=Option.some.inj H
    have p4:0 ≤ (x3_1:Int):=of_decide_eq_true q113_
    have q4:x3_1 < (a0.size:Int):=of_decide_eq_true q113_
    have hx4:=bt_at a0 x3_1
    replace p4:=eq_true p4
    replace q4:=eq_true q4
    have p6:0 ≤ (x3_1:Int):=of_decide_eq_true q113_
    have q6:x3_1 < (a0.size:Int):=of_decide_eq_true q113_
    have hx6:=bt_at a0 x3_1
    replace p6:=eq_true p6
    replace q6:=eq_true q6
    go_wp2
    go_ret
    exact ⟨q101_,q108_⟩
   rw [if_neg c7] at H
   have c7b0:decide (122 < (bt a0 x3_1)) = false:=decide_eq_false c7
   clear c7
   have H':=Aside0.mk H
   clear H
   have p4:0 ≤ (x3_1:Int):=of_decide_eq_true q113_
   have q4:x3_1 < (a0.size:Int):=of_decide_eq_true q113_
   have hx4:=bt_at a0 x3_1
   replace p4:=eq_true p4
   replace q4:=eq_true q4
   have p6:0 ≤ (x3_1:Int):=of_decide_eq_true q113_
   have q6:x3_1 < (a0.size:Int):=of_decide_eq_true q113_
   have hx6:=bt_at a0 x3_1
   replace p6:=eq_true p6
   replace q6:=eq_true q6
   go_wp2
   go_roundg k1
   case measure => have:=HK1.out;omega
   case rel => exact ⟨(wrap64 (x3_1 + 1)),q101_,H',⟨by have:=HK1.out;omega⟩,q108_⟩
  rw [if_neg c2] at H
  have c2b0:=decide_eq_false c2
  clear c2
  obtain rfl:=Option.some.inj H
  go_wp2
  go_ret
  exact ⟨q101_,q108_⟩
end Go.Proofs.YtoiiaklmjpiejaaDoor.QFnLines
