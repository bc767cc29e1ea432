/- The machine's side of a law,written by a program of this session for this claim. -/
import Derived.Test.YtoiiaklmjpiejaaDoorSQq
import Derived.Test.YtoiiaklmjpiejaaDoorSQFnSymTextsx0
import Derived.Test.YtoiiaklmjpiejaaDoorSQFnSymTextsx5
namespace Go.Proofs.YtoiiaklmjpiejaaDoor.QFnSymTexts
open Go.Proofs.YtoiiaklmjpiejaaDoor.Qq
open Go.RowKit Go.Proofs.YtoiiaklmjpiejaaDoor.LibX Go.Proofs.YtoiiaklmjpiejaaDoor.LibE Go.Proofs.YtoiiaklmjpiejaaDoor.LibCB Go.Proofs.YtoiiaklmjpiejaaDoor.LibG Go.Proofs.YtoiiaklmjpiejaaDoor.LibSY Go.Proofs.YtoiiaklmjpiejaaDoorW.PrintWords Go.Proofs.YtoiiaklmjpiejaaDoorW.PrintLast Go.Proofs.YtoiiaklmjpiejaaDoorW.PrintMore
attribute [local go_sem] max2_int min2_int max_two min_two max_three min_three max_four min_four   -- for this text's walks alone
set_option maxHeartbeats 8000000
set_option maxRecDepth 100000
set_option linter.unusedVariables false
set_option linter.unusedSimpArgs false
mutual
def spec_NameOk.j0:Nat → ByteArray → Bool → Option (Bool)
 | 0,_,_ => none
 | k + 1,x0,x17 => if x17 = true then (some false) else (spec_NameOk.l0 k x0 0)
def spec_NameOk.l0:Nat → ByteArray → Int → Option (Bool)
 | 0,_,_ => none
 | k + 1,x0,x3 => if x3 < (x0.size:Int) then (if 0 ≤ x3 then ((spec_l1Letter.f (bt x0 x3)).bind fun t177 => (if t177 = true then (spec_NameOk.j2 k x0 x3 false) else (if (bt x0 x3) ≥ 48 then (spec_NameOk.j2 k x0 x3 (!(decide ((bt x0 x3) ≤ 57)))) else (spec_NameOk.j2 k x0 x3 (!false))))) else (none)) else (some true)
def spec_NameOk.j2:Nat → ByteArray → Int → Bool → Option (Bool)
 | 0,_,_,_ => none
 | k + 1,x0,x3,x41 => if x41 = true then (some false) else (spec_NameOk.l0 k x0 (wrap64 (x3 + 1)))
end
def spec_NameOk.f (k:Nat) (a0:ByteArray):Option (Bool):=if (a0.size:Int) < 1 then (spec_NameOk.j0 k a0 true) else (if (a0.size:Int) > 16 then (spec_NameOk.j0 k a0 true) else (if 0 < (a0.size:Int) then ((spec_l1Letter.f (bt a0 0)).bind fun t176 => (spec_NameOk.j0 k a0 (!t176))) else (none)))
theorem spec_NameOk.calls (k:Nat) (a0:ByteArray) (r:Bool) (w:World) (h:spec_NameOk.f k a0 = some r) :
  Calls Tryd.prog 40 #[.string a0] w fun e w' => e = .returned (.bool r) ∧ Drawn0 w w':=by
 have H:=h;unfold spec_NameOk.f at H
 clear h
 have HC2:=Aside0.mk H
 clear H
 go_enter Tryd.func40,Tryd.ntmps40
 go_upto_region 1 with (fail)
 go_cut [17] (fun v17 wc => ∃ (kq:Nat) (x17_1:Bool),v17 = .bool x17_1 ∧ Aside0 (spec_NameOk.j0 kq a0 x17_1 = some r) ∧ Aside0 (kq ≤ k) ∧ Drawn0 w wc)
 case first =>
  have H:=HC2.out
  clear HC2
  by_cases c3:(a0.size:Int) < 1
  ·rw [if_pos c3] at H
   have c3b0:=decide_eq_true c3
   have c3b1:decide (a0.size < 1) = true:=decide_eq_true (by omega)
   clear c3
   (first | rw [c3b0] | (simp only [i64_w,i32_w];rw [c3b0]) | rw [c3b9] | skip)
   have H':=Aside0.mk H
   clear H
   go_wp2
   go_meet
   case rel => exact ⟨_,(true),q26_,H',⟨q37_⟩,q34_⟩
  rw [if_neg c3] at H
  have c3b0:=decide_eq_false c3
  have c3b1:decide (a0.size < 1) = false:=decide_eq_false (by omega)
  clear c3
  (first | rw [c3b0] | (simp only [i64_w,i32_w];rw [c3b0]) | rw [c3b9] | skip)
  by_cases c4:(a0.size:Int) > 16
  ·rw [if_pos c4] at H
   have c4b0:decide (16 < (a0.size:Int)) = true:=decide_eq_true c4
   have c4b1:decide (16 < a0.size) = true:=decide_eq_true (by omega)
   clear c4
   have H':=Aside0.mk H
   clear H
   go_wp2
   go_meet
   case rel => exact ⟨_,(true),q26_,H',⟨q37_⟩,q34_⟩
  rw [if_neg c4] at H
  have c4b0:decide (16 < (a0.size:Int)) = false:=decide_eq_false c4
  have c4b1:decide (16 < a0.size) = false:=decide_eq_false (by omega)
  clear c4
  by_cases c5:0 < (a0.size:Int)
  rotate_left
  ·rw [if_neg c5] at H
   exact absurd H (by simp)
  rw [if_pos c5] at H
  have c5b0:=decide_eq_true c5
  have c5b1:decide (0 < a0.size) = true:=decide_eq_true (by omega)
  clear c5
  replace H:=Option.bind_eq_some_iff.mp H
  obtain ⟨t176,A70,H⟩:=H
  have A7:=Aside0.mk A70
  clear A70
  have H':=Aside0.mk H
  clear H
  have p6:0 ≤ (0:Int):=(by omega)
  have q6:0 < a0.size:=(by have:(0:Int) < (a0.size:Int):=of_decide_eq_true q36_;omega)
  have hx6:∀ h:0 < a0.size,((a0[0]'h).toNat:Int) = bt a0 0:=bt_at a0 0
  clear p6
  have qi6:(0 < (a0.size:Int)) = True:=eq_true (of_decide_eq_true q36_)
  replace q6:=eq_true q6
  go_wp2_with (first | (go_at_call 61;(with_reducible refine (spec_l1Letter.calls (bt a0 0) t176 _ A7.out).mono ?_);rintro e w' ⟨rfl,⟨nd,rfl⟩⟩))
  go_meet
  case rel => exact ⟨_,(!t176),q26_,H',⟨q37_⟩,q34_⟩
 clear HC2
 try clear p2
 try clear c3
 try clear c3b0
 try clear c3b1
 try clear c4
 try clear c4b0
 try clear c4b1
 try clear c5
 try clear c5b0
 try clear c5b1
 try clear p6 p6
 try clear q6 q6
 try clear hx6
 try clear qi6
 obtain ⟨kq,x17_1,rfl,HA,HJ1,⟨mc1,rfl⟩⟩:=hcut
 cases kq with
 | zero => exact absurd HA.out (by simp [spec_NameOk.j0])
 | succ kj1 =>
  have H:=HA.out
  clear HA
  simp only [spec_NameOk.j0] at H
  by_cases c8:x17_1 = true
  ·subst c8
   rewrite [if_pos rfl] at H
   obtain rfl:=Option.some.inj H
   go_wp2
   go_ret
   exact ⟨q26_,q34_⟩
  replace c8:=Bool.eq_false_iff.mpr c8
  subst c8
  rewrite [if_neg (show ¬ (false = true) by decide)] at H
  have H':=Aside0.mk H
  clear H
  go_wp2
  go_loopg [3] kj1 (fun kq v3 w' => ∃ (x3_2:Int),v3 = .int .i64 x3_2 ∧ Aside0 (spec_NameOk.l0 kq a0 x3_2 = some r) ∧ Aside0 (kq ≤ kj1) ∧ Drawn0 w w')
  case atStart => exact ⟨(0),q26_,H',⟨Nat.le_refl _⟩,q34_⟩
  clear H'
  try clear c1
  try clear p2 p2
  try clear c3
  try clear c3b0
  try clear c3b1
  try clear c4
  try clear c4b0
  try clear c4b1
  try clear c5
  try clear c5b0
  try clear c5b1
  try clear p6 p6
  try clear q6 q6
  try clear hx6
  try clear qi6
  try clear c8
  obtain ⟨x3_2,rfl,HA,HK2,⟨m2,rfl⟩⟩:=hrel
  cases gk with
  | zero => exact absurd HA.out (by simp [spec_NameOk.l0])
  | succ k2 =>
   have H:=HA.out
   clear HA
   simp only [spec_NameOk.l0] at H
   by_cases c9:x3_2 < (a0.size:Int)
   ·rw [if_pos c9] at H
    have c9b0:=decide_eq_true c9
    clear c9
    have HC10:=Aside0.mk H
    clear H
    go_upto_region 6 with (fail)
    go_cut [41] (fun v41 wc => ∃ (kq:Nat) (x41_9:Bool),v41 = .bool x41_9 ∧ Aside0 (spec_NameOk.j2 kq a0 x3_2 x41_9 = some r) ∧ Aside0 (kq ≤ k2) ∧ Drawn0 w wc)
    case first =>
     have H:=HC10.out
     clear HC10
     by_cases c11:0 ≤ x3_2
     rotate_left
     ·rw [if_neg c11] at H
      exact absurd H (by simp)
     rw [if_pos c11] at H
     have c11b0:=decide_eq_true c11
     clear c11
     (first | rw [c11b0] | (simp only [i64_w,i32_w];rw [c11b0]) | rw [c11b9] | skip)
     replace H:=Option.bind_eq_some_iff.mp H
     obtain ⟨t177,A130,H⟩:=H
     have A13:=Aside0.mk A130
     clear A130
     by_cases c14:t177 = true
     ·subst c14
      rewrite [if_pos rfl] at H
      have H':=Aside0.mk H
      clear H
      have p12:0 ≤ (x3_2:Int):=of_decide_eq_true q36_
      have q12:x3_2 < (a0.size:Int):=of_decide_eq_true q36_
      have hx12:=bt_at a0 x3_2
      replace p12:=eq_true p12
      replace q12:=eq_true q12
      go_wp2_with (first | ((with_reducible refine gate_callee (f:=61) rfl ?_);refine goesL_ (some 27) rfl rfl Tryd.func61 (by kernel_rfl) rfl #[.int .u8 (bt a0 x3_2)] rfl q19_ ?_;(with_reducible refine (spec_l1Letter.calls (bt a0 x3_2) true _ A13.out).mono ?_);rintro e w' ⟨rfl,⟨nd,rfl⟩⟩;refine ⟨_,rfl,?_⟩))
      go_meet
      case rel => exact ⟨_,(false),q26_,H',⟨q33_⟩,q34_⟩
     replace c14:=Bool.eq_false_iff.mpr c14
     subst c14
     rewrite [if_neg (show ¬ (false = true) by decide)] at H
     by_cases c16:(bt a0 x3_2) ≥ 48
     ·rw [if_pos c16] at H
      have c16b0:decide (48 ≤ (bt a0 x3_2)) = true:=decide_eq_true c16
      clear c16
      have H':=Aside0.mk H
      clear H
      have p12:0 ≤ (x3_2:Int):=of_decide_eq_true q36_
      have q12:x3_2 < (a0.size:Int):=of_decide_eq_true q36_
      have hx12:=bt_at a0 x3_2
      replace p12:=eq_true p12
      replace q12:=eq_true q12
      go_wp2_with (first | ((with_reducible refine gate_callee (f:=61) rfl ?_);refine goesL_ (some 27) rfl rfl Tryd.func61 (by kernel_rfl) rfl #[.int .u8 (bt a0 x3_2)] rfl q19_ ?_;(with_reducible refine (spec_l1Letter.calls (bt a0 x3_2) false _ A13.out).mono ?_);rintro e w' ⟨rfl,⟨nd,rfl⟩⟩;refine ⟨_,rfl,?_⟩;have p15:0 ≤ (x3_2:Int):=of_decide_eq_true q36_;have q15:x3_2 < (a0.size:Int):=of_decide_eq_true q36_;have hx15:=bt_at a0 x3_2;replace p15:=eq_true p15;replace q15:=eq_true q15;have p17:0 ≤ (x3_2:Int):=of_decide_eq_true q36_;have q17:x3_2 < (a0.size:Int):=of_decide_eq_true q36_;have hx17:=bt_at a0 x3_2;replace p17:=eq_true p17;replace q17:=eq_true q17))
      go_meet
      case rel => exact ⟨_,(!(decide ((bt a0 x3_2) ≤ 57))),q26_,H',⟨q33_⟩,q34_⟩
     rw [if_neg c16] at H
     have c16b0:decide (48 ≤ (bt a0 x3_2)) = false:=decide_eq_false c16
     clear c16
     have H':=Aside0.mk H
     clear H
     have p12:0 ≤ (x3_2:Int):=of_decide_eq_true q36_
     have q12:x3_2 < (a0.size:Int):=of_decide_eq_true q36_
     have hx12:=bt_at a0 x3_2
     replace p12:=eq_true p12
     replace q12:=eq_true q12
     go_wp2_with (first | ((with_reducible refine gate_callee (f:=61) rfl ?_);refine goesL_ (some 27) rfl rfl Tryd.func61 (by kernel_rfl) rfl #[.int .u8 (bt a0 x3_2)] rfl q19_ ?_;(with_reducible refine (spec_l1Letter.calls (bt a0 x3_2) false _ A13.out).mono ?_);rintro e w' ⟨rfl,⟨nd,rfl⟩⟩;refine ⟨_,rfl,?_⟩;have p15:0 ≤ (x3_2:Int):=of_decide_eq_true q36_;have q15:x3_2 < (a0.size:Int):=of_decide_eq_true q36_;have hx15:=bt_at a0 x3_2;replace p15:=eq_true p15;replace q15:=eq_true q15))
     go_meet
     case rel => exact ⟨_,(!false),q26_,H',⟨q33_⟩,q34_⟩
    clear HC10
    try clear c1
    try clear p1
    try clear q1
    try clear hx1
    try clear p2 p2
    try clear c3
    try clear c3b0
    try clear c3b1
    try clear c4
    try clear c4b0
    try clear c4b1
    try clear c5
    try clear c5b0
    try clear c5b1
    try clear c6
    try clear p6 p6
    try clear q6 q6
    try clear hx6
    try clear qi6
    try clear c8
    try clear c9
    try clear c9b0
    try clear c11
    try clear c11b0
    try clear p12 p12
    try clear q12 q12
    try clear hx12
    try clear c14
    try clear p15 p15
    try clear q15 q15
    try clear hx15
    try clear c16
    try clear c16b0
    try clear p17 p17
    try clear q17 q17
    try clear hx17
    obtain ⟨kq,x41_9,rfl,HA,HJ9,⟨mc9,rfl⟩⟩:=hcut
    cases kq with
    | zero => exact absurd HA.out (by simp [spec_NameOk.j2])
    | succ kj9 =>
     have H:=HA.out
     clear HA
     simp only [spec_NameOk.j2] at H
     by_cases c18:x41_9 = true
     ·subst c18
      rewrite [if_pos rfl] at H
      obtain rfl:=Option.some.inj H
      go_wp2
      go_ret
      exact ⟨q26_,q34_⟩
     replace c18:=Bool.eq_false_iff.mpr c18
     subst c18
     rewrite [if_neg (show ¬ (false = true) by decide)] at H
     have H':=Aside0.mk H
     clear H
     go_wp2
     go_roundg kj9
     case measure => have:=HJ1.out;have:=HK2.out;have:=HJ9.out;omega
     case rel => exact ⟨(wrap64 (x3_2 + 1)),q26_,H',⟨by have:=HJ1.out;have:=HK2.out;have:=HJ9.out;omega⟩,q34_⟩
   rw [if_neg c9] at H
   have c9b0:=decide_eq_false c9
   clear c9
   obtain rfl:=Option.some.inj H
   go_wp2
   go_ret
   exact ⟨q26_,q34_⟩
def spec_l1In.f (a0:Int) (a1:Int) (a2:Int):Option (Bool):=if a0 ≥ a1 then (some (decide (a0 ≤ a2))) else (some false)
theorem spec_l1In.calls (a0:Int) (a1:Int) (a2:Int) (r:Bool) (w:World) (h:spec_l1In.f a0 a1 a2 = some r) :
  Calls Tryd.prog 74 #[.int .i64 a0,.int .i64 a1,.int .i64 a2] w fun e w' => e = .returned (.bool r) ∧ Drawn0 w w':=by
 have H:=h;unfold spec_l1In.f at H
 clear h
 by_cases c4:a0 ≥ a1
 ·rw [if_pos c4] at H
  have c4b0:decide (a1 ≤ a0) = true:=decide_eq_true c4
  clear c4
  obtain rfl:=Option.some.inj H
  go_enter Tryd.func74,Tryd.ntmps74
  go_wp2
  go_ret
  exact ⟨q26_,q34_⟩
 rw [if_neg c4] at H
 have c4b0:decide (a1 ≤ a0) = false:=decide_eq_false c4
 clear c4
 obtain rfl:=Option.some.inj H
 go_enter Tryd.func74,Tryd.ntmps74
 go_wp2
 go_ret
 exact ⟨q26_,q34_⟩
def spec_l4Byte.f (a0:Int):Option (Bool):=(spec_l1In.f a0 0 255).bind fun t178 => (some t178)
theorem spec_l4Byte.calls (a0:Int) (r:Bool) (w:World) (h:spec_l4Byte.f a0 = some r) :
  Calls Tryd.prog 50 #[.int .i64 a0] w fun e w' => e = .returned (.bool r) ∧ Drawn0 w w':=by
 have H:=h;unfold spec_l4Byte.f at H
 clear h
 replace H:=Option.bind_eq_some_iff.mp H
 obtain ⟨t178,A20,H⟩:=H
 have A2:=Aside0.mk A20
 clear A20
 obtain rfl:=Option.some.inj H
 go_enter Tryd.func50,Tryd.ntmps50
 go_wp2_with (first | ((with_reducible refine gate_callee (f:=74) rfl ?_);refine goesL_ (some 4) rfl rfl Tryd.func74 (by kernel_rfl) rfl #[.int .i64 a0,.int .i64 0,.int .i64 255] rfl q19_ ?_;(with_reducible refine (spec_l1In.calls a0 0 255 t178 _ A2.out).mono ?_);rintro e w' ⟨rfl,⟨nd,rfl⟩⟩;refine ⟨_,rfl,?_⟩))
 go_ret
 exact ⟨q26_,q34_⟩
def spec_l4Word.f (a0:Int):Option (Bool):=(spec_l1In.f a0 0 65535).bind fun t179 => (some t179)
theorem spec_l4Word.calls (a0:Int) (r:Bool) (w:World) (h:spec_l4Word.f a0 = some r) :
  Calls Tryd.prog 51 #[.int .i64 a0] w fun e w' => e = .returned (.bool r) ∧ Drawn0 w w':=by
 have H:=h;unfold spec_l4Word.f at H
 clear h
 replace H:=Option.bind_eq_some_iff.mp H
 obtain ⟨t179,A20,H⟩:=H
 have A2:=Aside0.mk A20
 clear A20
 obtain rfl:=Option.some.inj H
 go_enter Tryd.func51,Tryd.ntmps51
 go_wp2_with (first | ((with_reducible refine gate_callee (f:=74) rfl ?_);refine goesL_ (some 4) rfl rfl Tryd.func74 (by kernel_rfl) rfl #[.int .i64 a0,.int .i64 0,.int .i64 65535] rfl q19_ ?_;(with_reducible refine (spec_l1In.calls a0 0 65535 t179 _ A2.out).mono ?_);rintro e w' ⟨rfl,⟨nd,rfl⟩⟩;refine ⟨_,rfl,?_⟩))
 go_ret
 exact ⟨q26_,q34_⟩
mutual
def spec_HexOf.j0:Nat → Int → Int → Bool → Option (ByteArray)
 | 0,_,_,_ => none
 | k + 1,x0,x1,x14 => if x14 = true then (some (⟨#[]⟩:ByteArray)) else (spec_HexOf.l0 k x0 x1 (⟨#[]⟩:ByteArray) 0)
def spec_HexOf.l0:Nat → Int → Int → ByteArray → Int → Option (ByteArray)
 | 0,_,_,_,_ => none
 | k + 1,x0,x1,x5,x6 => if x6 < x1 then (if 0 ≤ (Int.tmod x0 16) then (if (Int.tmod x0 16) ≤ (wrap64 ((Int.tmod x0 16) + 1)) then (if (wrap64 ((Int.tmod x0 16) + 1)) ≤ 16 then (if ((⟨#[48,49,50,51,52,53,54,55,56,57,65,66,67,68,69,70]⟩:ByteArray).extract ((Int.tmod x0 16):Int).toNat ((wrap64 ((Int.tmod x0 16) + 1)):Int).toNat).size + x5.size ≤ 9223372036854775807 then (spec_HexOf.l0 k (wrap64 (Int.tdiv x0 16)) x1 (((⟨#[48,49,50,51,52,53,54,55,56,57,65,66,67,68,69,70]⟩:ByteArray).extract ((Int.tmod x0 16):Int).toNat ((wrap64 ((Int.tmod x0 16) + 1)):Int).toNat) ++ x5) (wrap64 (x6 + 1))) else (none)) else (none)) else (none)) else (none)) else (if x0 > 0 then (some (⟨#[]⟩:ByteArray)) else (if 1 + x5.size ≤ 9223372036854775807 then (some ((⟨#[36]⟩:ByteArray) ++ x5)) else (none)))
end
def spec_HexOf.f (k:Nat) (a0:Int) (a1:Int):Option (ByteArray):=(spec_l1In.f a1 1 4).bind fun t180 => (if t180 = true then ((spec_l1In.f a0 0 65535).bind fun t181 => (spec_HexOf.j0 k a0 a1 (!t181))) else (spec_HexOf.j0 k a0 a1 true))
theorem spec_HexOf.calls (k:Nat) (a0:Int) (a1:Int) (r:ByteArray) (w:World) (h:spec_HexOf.f k a0 a1 = some r) :
  Calls Tryd.prog 52 #[.int .i64 a0,.int .i64 a1] w fun e w' => e = .returned (.string r) ∧ Drawn0 w w':=by
 have H:=h;unfold spec_HexOf.f at H
 clear h
 have HC3:=Aside0.mk H
 clear H
 go_enter Tryd.func52,Tryd.ntmps52
 go_upto_region 1 with (fail)
 go_cut [14] (fun v14 wc => ∃ (kq:Nat) (x14_2:Bool),v14 = .bool x14_2 ∧ Aside0 (spec_HexOf.j0 kq a0 a1 x14_2 = some r) ∧ Aside0 (kq ≤ k) ∧ Drawn0 w wc)
 case first =>
  have H:=HC3.out
  clear HC3
  replace H:=Option.bind_eq_some_iff.mp H
  obtain ⟨t180,A40,H⟩:=H
  have A4:=Aside0.mk A40
  clear A40
  by_cases c5:t180 = true
  ·subst c5
   rewrite [if_pos rfl] at H
   replace H:=Option.bind_eq_some_iff.mp H
   obtain ⟨t181,A60,H⟩:=H
   have A6:=Aside0.mk A60
   clear A60
   have H':=Aside0.mk H
   clear H
   go_wp2_with (first | ((with_reducible refine gate_callee (f:=74) rfl ?_);refine goesL_ (some 8) rfl rfl Tryd.func74 (by kernel_rfl) rfl #[.int .i64 a1,.int .i64 1,.int .i64 4] rfl q19_ ?_;(with_reducible refine (spec_l1In.calls a1 1 4 true _ A4.out).mono ?_);rintro e w' ⟨rfl,⟨nd,rfl⟩⟩;refine ⟨_,rfl,?_⟩) | (go_at_call 74;(with_reducible refine (spec_l1In.calls a0 0 65535 t181 _ A6.out).mono ?_);rintro e w' ⟨rfl,⟨nd,rfl⟩⟩))
   go_meet
   case rel => exact ⟨_,(!t181),q26_,H',⟨q37_⟩,q34_⟩
  replace c5:=Bool.eq_false_iff.mpr c5
  subst c5
  rewrite [if_neg (show ¬ (false = true) by decide)] at H
  have H':=Aside0.mk H
  clear H
  go_wp2_with (first | ((with_reducible refine gate_callee (f:=74) rfl ?_);refine goesL_ (some 8) rfl rfl Tryd.func74 (by kernel_rfl) rfl #[.int .i64 a1,.int .i64 1,.int .i64 4] rfl q19_ ?_;(with_reducible refine (spec_l1In.calls a1 1 4 false _ A4.out).mono ?_);rintro e w' ⟨rfl,⟨nd,rfl⟩⟩;refine ⟨_,rfl,?_⟩))
  go_meet
  case rel => exact ⟨_,(true),q26_,H',⟨q37_⟩,q34_⟩
 clear HC3
 try clear p2
 try clear c5
 try clear p6
 obtain ⟨kq,x14_2,rfl,HA,HJ2,⟨mc2,rfl⟩⟩:=hcut
 cases kq with
 | zero => exact absurd HA.out (by simp [spec_HexOf.j0])
 | succ kj2 =>
  have H:=HA.out
  clear HA
  simp only [spec_HexOf.j0] at H
  by_cases c7:x14_2 = true
  ·subst c7
   rewrite [if_pos rfl] at H
   obtain rfl:=Option.some.inj H
   go_wp2
   go_ret
   exact ⟨q26_,q34_⟩
  replace c7:=Bool.eq_false_iff.mpr c7
  subst c7
  rewrite [if_neg (show ¬ (false = true) by decide)] at H
  have H':=Aside0.mk H
  clear H
  go_wp2
  go_loopg [0,5,6] kj2 (fun kq v0 v5 v6 w' => ∃ (x0_2:Int) (x5_2:ByteArray) (x6_2:Int),v0 = .int .i64 x0_2 ∧ v5 = .string x5_2 ∧ v6 = .int .i64 x6_2 ∧ Aside0 (spec_HexOf.l0 kq x0_2 a1 x5_2 x6_2 = some r) ∧ Aside0 (kq ≤ kj2) ∧ Drawn0 w w')
  case atStart => exact ⟨(a0),((⟨#[]⟩:ByteArray)),(0),q26_,q26_,q26_,H',⟨Nat.le_refl _⟩,q34_⟩
  clear H'
  try clear c2
  try clear p2 p2
  try clear c5
  try clear p6 p6
  try clear c7
  obtain ⟨x0_2,x5_2,x6_2,rfl,rfl,rfl,HA,HK2,⟨m2,rfl⟩⟩:=hrel
  cases gk with
  | zero => exact absurd HA.out (by simp [spec_HexOf.l0])
  | succ k2 =>
   have H:=HA.out
   clear HA
   simp only [spec_HexOf.l0] at H
   by_cases c8:x6_2 < a1
   ·rw [if_pos c8] at H
    have c8b0:=decide_eq_true c8
    clear c8
    obtain ⟨ji9,hji9⟩:∃ j_:Int,(Int.tmod x0_2 16) = j_:=⟨_,rfl⟩
    (first | rewrite [hji9] at H | simp only [hji9] at H)
    by_cases c10:0 ≤ (ji9)
    rotate_left
    ·rw [if_neg c10] at H
     exact absurd H (by simp)
    rw [if_pos c10] at H
    have c10b0:=eq_true c10
    have c10b1:=decide_eq_true c10
    clear c10
    by_cases c11:(ji9) ≤ (wrap64 ((ji9) + 1))
    rotate_left
    ·rw [if_neg c11] at H
     exact absurd H (by simp)
    rw [if_pos c11] at H
    have c11b0:=eq_true c11
    have c11b1:=decide_eq_true c11
    by_cases c12:(wrap64 ((ji9) + 1)) ≤ 16
    rotate_left
    ·rw [if_neg c12] at H
     exact absurd H (by simp)
    rw [if_pos c12] at H
    have c12b0:=eq_true c12
    have c12b1:=decide_eq_true c12
    by_cases c13:((⟨#[48,49,50,51,52,53,54,55,56,57,65,66,67,68,69,70]⟩:ByteArray).extract ((ji9):Int).toNat ((wrap64 ((ji9) + 1)):Int).toNat).size + x5_2.size ≤ 9223372036854775807
    rotate_left
    ·rw [if_neg c13] at H
     exact absurd H (by simp)
    rw [if_pos c13] at H
    have c13b0:=eq_true c13
    (try (have c13b0e:=c13b0;simp only [ByteArray.size_append,ByteArray.size_extract,Nat.min_self,Nat.sub_zero,show (⟨#[48,49,50,51,52,53,54,55,56,57,65,66,67,68,69,70]⟩:ByteArray).size = 16 from rfl] at c13b0e))
    have c13b1:=decide_eq_true c13
    (try (have c13b1e:=c13b1;simp only [ByteArray.size_append,ByteArray.size_extract,Nat.min_self,Nat.sub_zero,show (⟨#[48,49,50,51,52,53,54,55,56,57,65,66,67,68,69,70]⟩:ByteArray).size = 16 from rfl] at c13b1e))
    try have c13b2:(9223372036854775807 < ((⟨#[48,49,50,51,52,53,54,55,56,57,65,66,67,68,69,70]⟩:ByteArray).extract ((ji9):Int).toNat ((wrap64 ((ji9) + 1)):Int).toNat).size + x5_2.size) = False:=eq_false (Nat.not_lt.2 c13)
    (try (have c13b2e:=c13b2;simp only [ByteArray.size_append,ByteArray.size_extract,Nat.min_self,Nat.sub_zero,show (⟨#[48,49,50,51,52,53,54,55,56,57,65,66,67,68,69,70]⟩:ByteArray).size = 16 from rfl] at c13b2e))
    (try (first | (have c13b2p:=eq_true (of_decide_eq_true c13b2e)) | (have c13b2p:=eq_false (of_decide_eq_false c13b2e))))
    have H':=Aside0.mk H
    clear H
    go_wp2
    go_roundg k2
    case measure => have:=HJ2.out;have:=HK2.out;omega
    case rel => exact ⟨(wrap64 (Int.tdiv x0_2 16)),(((⟨#[48,49,50,51,52,53,54,55,56,57,65,66,67,68,69,70]⟩:ByteArray).extract ((ji9):Int).toNat ((wrap64 ((ji9) + 1)):Int).toNat) ++ x5_2),(wrap64 (x6_2 + 1)),q26_,q8_,q26_,(by first | with_reducible exact H' | (have H2_:=H';simp only [← hji9] at H2_ ⊢;with_reducible exact H2_) | exact H'),⟨by have:=HJ2.out;have:=HK2.out;omega⟩,q34_⟩
   rw [if_neg c8] at H
   have c8b0:=decide_eq_false c8
   clear c8
   by_cases c14:x0_2 > 0
   ·rw [if_pos c14] at H
    have c14b0:decide (0 < x0_2) = true:=decide_eq_true c14
    clear c14
    obtain rfl:=Option.some.inj H
    go_wp2
    go_ret
    exact ⟨q26_,q34_⟩
   rw [if_neg c14] at H
   have c14b0:decide (0 < x0_2) = false:=decide_eq_false c14
   clear c14
   by_cases c15:1 + x5_2.size ≤ 9223372036854775807
   rotate_left
   ·rw [if_neg c15] at H
    exact absurd H (by simp)
   rw [if_pos c15] at H
   have c15b0:=eq_true c15
   have c15b1:=decide_eq_true c15
   try have c15b2:(9223372036854775807 < 1 + x5_2.size) = False:=eq_false (Nat.not_lt.2 c15)
   obtain rfl:=Option.some.inj H
   go_wp2
   go_ret
   exact ⟨q26_,q34_⟩
end Go.Proofs.YtoiiaklmjpiejaaDoor.QFnSymTexts
