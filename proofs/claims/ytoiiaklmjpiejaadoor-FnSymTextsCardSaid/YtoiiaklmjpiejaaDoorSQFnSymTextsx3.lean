/- The machine's side of a law,written by a program of this session for this claim. -/
import Derived.Test.YtoiiaklmjpiejaaDoorSQq
import Derived.Test.YtoiiaklmjpiejaaDoorSQFnSymTextsx0
import Derived.Test.YtoiiaklmjpiejaaDoorSQFnSymTextsx2
namespace Go.Proofs.YtoiiaklmjpiejaaDoor.QFnSymTexts
open Go.Proofs.YtoiiaklmjpiejaaDoor.Qq
open Go.RowKit Go.Proofs.YtoiiaklmjpiejaaDoor.LibX Go.Proofs.YtoiiaklmjpiejaaDoor.LibE Go.Proofs.YtoiiaklmjpiejaaDoor.LibCB Go.Proofs.YtoiiaklmjpiejaaDoor.LibG Go.Proofs.YtoiiaklmjpiejaaDoor.LibSY Go.Proofs.YtoiiaklmjpiejaaDoorW.PrintWords Go.Proofs.YtoiiaklmjpiejaaDoorW.PrintLast Go.Proofs.YtoiiaklmjpiejaaDoorW.PrintMore
attribute [local go_sem] max2_int min2_int max_two min_two max_three min_three max_four min_four   -- for this text's walks alone
set_option maxHeartbeats 8000000
set_option maxRecDepth 100000
set_option linter.unusedVariables false
set_option linter.unusedSimpArgs false
mutual
def impl_NameOk.j0:Nat → ByteArray → Bool → Option (Bool)
 | 0,_,_ => none
 | k + 1,x0,x12 => if x12 = true then (some false) else (impl_NameOk.l0 k x0 (x0.size:Int) 0)
def impl_NameOk.l0:Nat → ByteArray → Int → Int → Option (Bool)
 | 0,_,_,_ => none
 | k + 1,x0,x14,x15 => if x15 < x14 then (if 0 ≤ x15 then (if x15 < (x0.size:Int) then ((impl_isSmall.f (bt x0 x15)).bind fun t132 => (if t132 = true then (impl_NameOk.j2 k x0 x14 x15 false) else ((impl_isDigit.f (bt x0 x15)).bind fun t133 => (if t133 = true then (impl_NameOk.j2 k x0 x14 x15 false) else (if (bt x0 x15) = 95 then (impl_NameOk.j2 k x0 x14 x15 false) else (impl_NameOk.j2 k x0 x14 x15 ((bt x0 x15) != 46))))))) else (none)) else (none)) else (some true)
def impl_NameOk.j2:Nat → ByteArray → Int → Int → Bool → Option (Bool)
 | 0,_,_,_,_ => none
 | k + 1,x0,x14,x15,x41 => if x41 = true then (some false) else (impl_NameOk.l0 k x0 x14 (wrap64 (x15 + 1)))
end
def impl_NameOk.f (k:Nat) (a0:ByteArray):Option (Bool):=(impl_within.f (a0.size:Int) 1 16).bind fun t130 => (if t130 = true then (if 0 < (a0.size:Int) then ((impl_isDigit.f (bt a0 0)).bind fun t131 => (impl_NameOk.j0 k a0 t131)) else (none)) else (impl_NameOk.j0 k a0 true))
theorem impl_NameOk.calls (k:Nat) (a0:ByteArray) (r:Bool) (w:World) (h:impl_NameOk.f k a0 = some r) :
  Calls Tryd.prog 38 #[.string a0] w fun e w' => e = .returned (.bool r) ∧ Drawn0 w w':=by
 have H:=h;unfold impl_NameOk.f at H
 clear h
 have HC2:=Aside0.mk H
 clear H
 go_enter Tryd.func38,Tryd.ntmps38
 go_upto_region 1 with (fail)
 go_cut [12] (fun v12 wc => ∃ (kq:Nat) (x12_1:Bool),v12 = .bool x12_1 ∧ Aside0 (impl_NameOk.j0 kq a0 x12_1 = some r) ∧ Aside0 (kq ≤ k) ∧ Drawn0 w wc)
 case first =>
  have H:=HC2.out
  clear HC2
  replace H:=Option.bind_eq_some_iff.mp H
  obtain ⟨t130,A30,H⟩:=H
  have A3:=Aside0.mk A30
  clear A30
  by_cases c4:t130 = true
  ·subst c4
   rewrite [if_pos rfl] at H
   by_cases c5:0 < (a0.size:Int)
   rotate_left
   ·rw [if_neg c5] at H
    exact absurd H (by simp)
   rw [if_pos c5] at H
   have c5b0:=decide_eq_true c5
   have c5b1:decide (0 < a0.size) = true:=decide_eq_true (by omega)
   clear c5
   (first | rw [c5b0] | (simp only [i64_w,i32_w];rw [c5b0]) | rw [c5b9] | skip)
   replace H:=Option.bind_eq_some_iff.mp H
   obtain ⟨t131,A70,H⟩:=H
   have A7:=Aside0.mk A70
   clear A70
   have H':=Aside0.mk H
   clear H
   go_wp2_with (first | ((with_reducible refine gate_callee (f:=58) rfl ?_);refine goesL_ (some 6) rfl rfl Tryd.func58 (by kernel_rfl) rfl #[.int .i64 (a0.size:Int),.int .i64 1,.int .i64 16] rfl q19_ ?_;(with_reducible refine (impl_within.calls (a0.size:Int) 1 16 true _ A3.out).mono ?_);rintro e w' ⟨rfl,⟨nd,rfl⟩⟩;refine ⟨_,rfl,?_⟩;have p6:0 ≤ (0:Int):=(by omega);have q6:0 < a0.size:=(by have:(0:Int) < (a0.size:Int):=of_decide_eq_true q36_;omega);have hx6:∀ h:0 < a0.size,((a0[0]'h).toNat:Int) = bt a0 0:=bt_at a0 0;clear p6;have qi6:(0 < (a0.size:Int)) = True:=eq_true (of_decide_eq_true q36_);replace q6:=eq_true q6) | (go_at_call 59;(with_reducible refine (impl_isDigit.calls (bt a0 0) t131 _ A7.out).mono ?_);rintro e w' ⟨rfl,⟨nd,rfl⟩⟩))
   go_meet
   case rel => exact ⟨_,(t131),q26_,H',⟨q37_⟩,q34_⟩
  replace c4:=Bool.eq_false_iff.mpr c4
  subst c4
  rewrite [if_neg (show ¬ (false = true) by decide)] at H
  have H':=Aside0.mk H
  clear H
  go_wp2_with (first | ((with_reducible refine gate_callee (f:=58) rfl ?_);refine goesL_ (some 6) rfl rfl Tryd.func58 (by kernel_rfl) rfl #[.int .i64 (a0.size:Int),.int .i64 1,.int .i64 16] rfl q19_ ?_;(with_reducible refine (impl_within.calls (a0.size:Int) 1 16 false _ A3.out).mono ?_);rintro e w' ⟨rfl,⟨nd,rfl⟩⟩;refine ⟨_,rfl,?_⟩))
  go_meet
  case rel => exact ⟨_,(true),q26_,H',⟨q37_⟩,q34_⟩
 clear HC2
 try clear p2
 try clear c3
 try clear c4
 try clear c5
 try clear c5b0
 try clear c5b1
 try clear p6 p6
 try clear q6 q6
 try clear hx6
 try clear qi6
 obtain ⟨kq,x12_1,rfl,HA,HJ1,⟨mc1,rfl⟩⟩:=hcut
 cases kq with
 | zero => exact absurd HA.out (by simp [impl_NameOk.j0])
 | succ kj1 =>
  have H:=HA.out
  clear HA
  simp only [impl_NameOk.j0] at H
  by_cases c8:x12_1 = true
  ·subst c8
   rewrite [if_pos rfl] at H
   obtain rfl:=Option.some.inj H
   go_wp2
   go_ret
   exact ⟨q26_,q34_⟩
  replace c8:=Bool.eq_false_iff.mpr c8
  subst c8
  rewrite [if_neg (show ¬ (false = true) by decide)] at H
  have H':=Aside0.mk H
  clear H
  go_wp2
  go_loopg [15] kj1 (fun kq v15 w' => ∃ (x15_2:Int),v15 = .int .i64 x15_2 ∧ Aside0 (impl_NameOk.l0 kq a0 (a0.size:Int) x15_2 = some r) ∧ Aside0 (kq ≤ kj1) ∧ Drawn0 w w')
  case atStart => exact ⟨(0),q26_,H',⟨Nat.le_refl _⟩,q34_⟩
  clear H'
  try clear c1
  try clear p2 p2
  try clear c3
  try clear c4
  try clear c5
  try clear c5b0
  try clear c5b1
  try clear p6 p6
  try clear q6 q6
  try clear hx6
  try clear qi6
  try clear c8
  obtain ⟨x15_2,rfl,HA,HK2,⟨m2,rfl⟩⟩:=hrel
  cases gk with
  | zero => exact absurd HA.out (by simp [impl_NameOk.l0])
  | succ k2 =>
   have H:=HA.out
   clear HA
   simp only [impl_NameOk.l0] at H
   by_cases c9:x15_2 < (a0.size:Int)
   ·rw [if_pos c9] at H
    have c9b0:=decide_eq_true c9
    clear c9
    have HC10:=Aside0.mk H
    clear H
    go_upto_region 6 with (fail)
    go_cut [41] (fun v41 wc => ∃ (kq:Nat) (x41_9:Bool),v41 = .bool x41_9 ∧ Aside0 (impl_NameOk.j2 kq a0 (a0.size:Int) x15_2 x41_9 = some r) ∧ Aside0 (kq ≤ k2) ∧ Drawn0 w wc)
    case first =>
     have H:=HC10.out
     clear HC10
     by_cases c11:0 ≤ x15_2
     rotate_left
     ·rw [if_neg c11] at H
      exact absurd H (by simp)
     rw [if_pos c11] at H
     have c11b0:=decide_eq_true c11
     clear c11
     (first | rw [c11b0] | (simp only [i64_w,i32_w];rw [c11b0]) | rw [c11b9] | skip)
     by_cases c12:x15_2 < (a0.size:Int)
     rotate_left
     ·rw [if_neg c12] at H
      exact absurd H (by simp)
     rw [if_pos c12] at H
     have c12b0:=decide_eq_true c12
     clear c12
     replace H:=Option.bind_eq_some_iff.mp H
     obtain ⟨t132,A140,H⟩:=H
     have A14:=Aside0.mk A140
     clear A140
     by_cases c15:t132 = true
     ·subst c15
      rewrite [if_pos rfl] at H
      have H':=Aside0.mk H
      clear H
      have p13:0 ≤ (x15_2:Int):=of_decide_eq_true q36_
      have q13:x15_2 < (a0.size:Int):=of_decide_eq_true q36_
      have hx13:=bt_at a0 x15_2
      replace p13:=eq_true p13
      replace q13:=eq_true q13
      go_wp2_with (first | ((with_reducible refine gate_callee (f:=60) rfl ?_);refine goesL_ (some 21) rfl rfl Tryd.func60 (by kernel_rfl) rfl #[.int .u8 (bt a0 x15_2)] rfl q19_ ?_;(with_reducible refine (impl_isSmall.calls (bt a0 x15_2) true _ A14.out).mono ?_);rintro e w' ⟨rfl,⟨nd,rfl⟩⟩;refine ⟨_,rfl,?_⟩))
      go_meet
      case rel => exact ⟨_,(false),q26_,H',⟨q33_⟩,q34_⟩
     replace c15:=Bool.eq_false_iff.mpr c15
     subst c15
     rewrite [if_neg (show ¬ (false = true) by decide)] at H
     replace H:=Option.bind_eq_some_iff.mp H
     obtain ⟨t133,A170,H⟩:=H
     have A17:=Aside0.mk A170
     clear A170
     by_cases c18:t133 = true
     ·subst c18
      rewrite [if_pos rfl] at H
      have H':=Aside0.mk H
      clear H
      have p13:0 ≤ (x15_2:Int):=of_decide_eq_true q36_
      have q13:x15_2 < (a0.size:Int):=of_decide_eq_true q36_
      have hx13:=bt_at a0 x15_2
      replace p13:=eq_true p13
      replace q13:=eq_true q13
      go_wp2_with (first | ((with_reducible refine gate_callee (f:=60) rfl ?_);refine goesL_ (some 21) rfl rfl Tryd.func60 (by kernel_rfl) rfl #[.int .u8 (bt a0 x15_2)] rfl q19_ ?_;(with_reducible refine (impl_isSmall.calls (bt a0 x15_2) false _ A14.out).mono ?_);rintro e w' ⟨rfl,⟨nd,rfl⟩⟩;refine ⟨_,rfl,?_⟩;have p16:0 ≤ (x15_2:Int):=of_decide_eq_true q36_;have q16:x15_2 < (a0.size:Int):=of_decide_eq_true q36_;have hx16:=bt_at a0 x15_2;replace p16:=eq_true p16;replace q16:=eq_true q16) | (go_at_call 59;(with_reducible refine (impl_isDigit.calls (bt a0 x15_2) true _ A17.out).mono ?_);rintro e w' ⟨rfl,⟨nd,rfl⟩⟩))
      go_meet
      case rel => exact ⟨_,(false),q26_,H',⟨q33_⟩,q34_⟩
     replace c18:=Bool.eq_false_iff.mpr c18
     subst c18
     rewrite [if_neg (show ¬ (false = true) by decide)] at H
     by_cases c20:(bt a0 x15_2) = 95
     ·rw [if_pos c20] at H
      have c20b0:((bt a0 x15_2) == 95) = true:=beq_iff_eq.mpr c20
      have c20b1:((bt a0 x15_2) != 95) = false:=bne_eq_false_iff_eq.mpr c20
      clear c20
      have H':=Aside0.mk H
      clear H
      have p13:0 ≤ (x15_2:Int):=of_decide_eq_true q36_
      have q13:x15_2 < (a0.size:Int):=of_decide_eq_true q36_
      have hx13:=bt_at a0 x15_2
      replace p13:=eq_true p13
      replace q13:=eq_true q13
      go_wp2_with (first | ((with_reducible refine gate_callee (f:=60) rfl ?_);refine goesL_ (some 21) rfl rfl Tryd.func60 (by kernel_rfl) rfl #[.int .u8 (bt a0 x15_2)] rfl q19_ ?_;(with_reducible refine (impl_isSmall.calls (bt a0 x15_2) false _ A14.out).mono ?_);rintro e w' ⟨rfl,⟨nd,rfl⟩⟩;refine ⟨_,rfl,?_⟩;have p16:0 ≤ (x15_2:Int):=of_decide_eq_true q36_;have q16:x15_2 < (a0.size:Int):=of_decide_eq_true q36_;have hx16:=bt_at a0 x15_2;replace p16:=eq_true p16;replace q16:=eq_true q16) | (go_at_call 59;(with_reducible refine (impl_isDigit.calls (bt a0 x15_2) false _ A17.out).mono ?_);rintro e w' ⟨rfl,⟨nd,rfl⟩⟩;have p19:0 ≤ (x15_2:Int):=of_decide_eq_true q36_;have q19:x15_2 < (a0.size:Int):=of_decide_eq_true q36_;have hx19:=bt_at a0 x15_2;replace p19:=eq_true p19;replace q19:=eq_true q19))
      go_meet
      case rel => exact ⟨_,(false),q26_,H',⟨q33_⟩,q34_⟩
     rw [if_neg c20] at H
     have c20b0:((bt a0 x15_2) == 95) = false:=beq_eq_false_iff_ne.mpr c20
     have c20b1:((bt a0 x15_2) != 95) = true:=bne_iff_ne.mpr c20
     have H':=Aside0.mk H
     clear H
     have p13:0 ≤ (x15_2:Int):=of_decide_eq_true q36_
     have q13:x15_2 < (a0.size:Int):=of_decide_eq_true q36_
     have hx13:=bt_at a0 x15_2
     replace p13:=eq_true p13
     replace q13:=eq_true q13
     go_wp2_with (first | ((with_reducible refine gate_callee (f:=60) rfl ?_);refine goesL_ (some 21) rfl rfl Tryd.func60 (by kernel_rfl) rfl #[.int .u8 (bt a0 x15_2)] rfl q19_ ?_;(with_reducible refine (impl_isSmall.calls (bt a0 x15_2) false _ A14.out).mono ?_);rintro e w' ⟨rfl,⟨nd,rfl⟩⟩;refine ⟨_,rfl,?_⟩;have p16:0 ≤ (x15_2:Int):=of_decide_eq_true q36_;have q16:x15_2 < (a0.size:Int):=of_decide_eq_true q36_;have hx16:=bt_at a0 x15_2;replace p16:=eq_true p16;replace q16:=eq_true q16) | (go_at_call 59;(with_reducible refine (impl_isDigit.calls (bt a0 x15_2) false _ A17.out).mono ?_);rintro e w' ⟨rfl,⟨nd,rfl⟩⟩;have p19:0 ≤ (x15_2:Int):=of_decide_eq_true q36_;have q19:x15_2 < (a0.size:Int):=of_decide_eq_true q36_;have hx19:=bt_at a0 x15_2;replace p19:=eq_true p19;replace q19:=eq_true q19;have p21:0 ≤ (x15_2:Int):=of_decide_eq_true q36_;have q21:x15_2 < (a0.size:Int):=of_decide_eq_true q36_;have hx21:=bt_at a0 x15_2;replace p21:=eq_true p21;replace q21:=eq_true q21))
     go_meet
     case rel => exact ⟨_,(((bt a0 x15_2) != 46)),q26_,H',⟨q33_⟩,q34_⟩
    clear HC10
    try clear c1
    try clear p1
    try clear q1
    try clear hx1
    try clear c2
    try clear p2 p2
    try clear q2
    try clear hx2
    try clear c3
    try clear c4
    try clear c5
    try clear c5b0
    try clear c5b1
    try clear c6
    try clear p6 p6
    try clear q6 q6
    try clear hx6
    try clear qi6
    try clear c8
    try clear c9
    try clear c9b0
    try clear c11
    try clear c11b0
    try clear c12
    try clear c12b0
    try clear p13 p13
    try clear q13 q13
    try clear hx13
    try clear c15
    try clear p16 p16
    try clear q16 q16
    try clear hx16
    try clear c18
    try clear p19 p19
    try clear q19 q19
    try clear hx19
    try clear c20
    try clear c20b0
    try clear c20b1
    try clear p21 p21
    try clear q21 q21
    try clear hx21
    obtain ⟨kq,x41_9,rfl,HA,HJ9,⟨mc9,rfl⟩⟩:=hcut
    cases kq with
    | zero => exact absurd HA.out (by simp [impl_NameOk.j2])
    | succ kj9 =>
     have H:=HA.out
     clear HA
     simp only [impl_NameOk.j2] at H
     by_cases c22:x41_9 = true
     ·subst c22
      rewrite [if_pos rfl] at H
      obtain rfl:=Option.some.inj H
      go_wp2
      go_ret
      exact ⟨q26_,q34_⟩
     replace c22:=Bool.eq_false_iff.mpr c22
     subst c22
     rewrite [if_neg (show ¬ (false = true) by decide)] at H
     have H':=Aside0.mk H
     clear H
     go_wp2
     go_roundg kj9
     case measure => have:=HJ1.out;have:=HK2.out;have:=HJ9.out;omega
     case rel => exact ⟨(wrap64 (x15_2 + 1)),q26_,H',⟨by have:=HJ1.out;have:=HK2.out;have:=HJ9.out;omega⟩,q34_⟩
   rw [if_neg c9] at H
   have c9b0:=decide_eq_false c9
   clear c9
   obtain rfl:=Option.some.inj H
   go_wp2
   go_ret
   exact ⟨q26_,q34_⟩
def impl_isByte.f (a0:Int):Option (Bool):=(impl_within.f a0 0 255).bind fun t134 => (some t134)
theorem impl_isByte.calls (a0:Int) (r:Bool) (w:World) (h:impl_isByte.f a0 = some r) :
  Calls Tryd.prog 90 #[.int .i64 a0] w fun e w' => e = .returned (.bool r) ∧ Drawn0 w w':=by
 have H:=h;unfold impl_isByte.f at H
 clear h
 replace H:=Option.bind_eq_some_iff.mp H
 obtain ⟨t134,A20,H⟩:=H
 have A2:=Aside0.mk A20
 clear A20
 obtain rfl:=Option.some.inj H
 go_enter Tryd.func90,Tryd.ntmps90
 go_wp2_with (first | ((with_reducible refine gate_callee (f:=58) rfl ?_);refine goesL_ (some 4) rfl rfl Tryd.func58 (by kernel_rfl) rfl #[.int .i64 a0,.int .i64 0,.int .i64 255] rfl q19_ ?_;(with_reducible refine (impl_within.calls a0 0 255 t134 _ A2.out).mono ?_);rintro e w' ⟨rfl,⟨nd,rfl⟩⟩;refine ⟨_,rfl,?_⟩))
 go_ret
 exact ⟨q26_,q34_⟩
def impl_isWord.f (a0:Int):Option (Bool):=(impl_within.f a0 0 65535).bind fun t135 => (some t135)
theorem impl_isWord.calls (a0:Int) (r:Bool) (w:World) (h:impl_isWord.f a0 = some r) :
  Calls Tryd.prog 91 #[.int .i64 a0] w fun e w' => e = .returned (.bool r) ∧ Drawn0 w w':=by
 have H:=h;unfold impl_isWord.f at H
 clear h
 replace H:=Option.bind_eq_some_iff.mp H
 obtain ⟨t135,A20,H⟩:=H
 have A2:=Aside0.mk A20
 clear A20
 obtain rfl:=Option.some.inj H
 go_enter Tryd.func91,Tryd.ntmps91
 go_wp2_with (first | ((with_reducible refine gate_callee (f:=58) rfl ?_);refine goesL_ (some 4) rfl rfl Tryd.func58 (by kernel_rfl) rfl #[.int .i64 a0,.int .i64 0,.int .i64 65535] rfl q19_ ?_;(with_reducible refine (impl_within.calls a0 0 65535 t135 _ A2.out).mono ?_);rintro e w' ⟨rfl,⟨nd,rfl⟩⟩;refine ⟨_,rfl,?_⟩))
 go_ret
 exact ⟨q26_,q34_⟩
def impl_isSym.f (k:Nat) (a0_0:ByteArray) (a0_1:Int) (a0_2:Int):Option (Bool):=(impl_NameOk.f k a0_0).bind fun t137 => (if t137 = true then ((impl_isByte.f a0_1).bind fun t138 => (if t138 = true then ((impl_isWord.f a0_2).bind fun t139 => (some t139)) else (some false))) else (some false))
theorem impl_isSym.calls (k:Nat) (a0_0:ByteArray) (a0_1:Int) (a0_2:Int) (r:Bool) (w:World) (h:impl_isSym.f k a0_0 a0_1 a0_2 = some r) :
  Calls Tryd.prog 67 #[.agg #[.string a0_0,.int .i64 a0_1,.int .i64 a0_2]] w fun e w' => e = .returned (.bool r) ∧ Below w.heap.size w w':=by
 have hu54:=Tryd.underlying54
 have HB:=Aside0.mk (Below.refl w.heap.size w)
 have H:=h;unfold impl_isSym.f at H
 clear h
 replace H:=Option.bind_eq_some_iff.mp H
 obtain ⟨t137,A20,H⟩:=H
 have A2:=Aside0.mk A20
 clear A20
 by_cases c3:t137 = true
 ·subst c3
  rewrite [if_pos rfl] at H
  replace H:=Option.bind_eq_some_iff.mp H
  obtain ⟨t138,A40,H⟩:=H
  have A4:=Aside0.mk A40
  clear A40
  by_cases c5:t138 = true
  ·subst c5
   rewrite [if_pos rfl] at H
   replace H:=Option.bind_eq_some_iff.mp H
   obtain ⟨t139,A60,H⟩:=H
   have A6:=Aside0.mk A60
   clear A60
   obtain rfl:=Option.some.inj H
   go_enter Tryd.func67,Tryd.ntmps67
   go_wp2_with (first | ((with_reducible refine gate_dst (N:=1) rfl ?_);refine box_event ?hg (N:=1) ?hd (cs:=#[.string a0_0,.int .i64 a0_1,.int .i64 a0_2]) (t:=54) ?hr ?_;(case hd => rfl);(case hg => rfl);(case hr => exact q51_);intro gb136 hg w7 hbox hb;have n0_:=Aside0.mk (below_step q20_ hb);have n1_:=Aside0.mk (hbox);have n2_:=Aside0.mk ((q10_:w.heap.size ≤ gb136));have n3_:=Aside0.mk ((q10_:w.heap.size ≤ gb136));clear HB;have HB:=n0_;have BK136:=n1_;have GW136:=n2_;have GE136:=n3_;clear n0_ n1_ n2_ n3_;clear hb hbox hg;have hcz8_0:w7.cell? ⟨gb136,0,none⟩ = some (.string a0_0):=(blk_cell BK136.out 0).trans rfl;have hcz8_1:w7.cell? ⟨gb136,1,none⟩ = some (.int .i64 a0_1):=(blk_cell BK136.out 1).trans rfl;have hcz8_2:w7.cell? ⟨gb136,2,none⟩ = some (.int .i64 a0_2):=(blk_cell BK136.out 2).trans rfl;have hfz8_0:=blk_frozen BK136.out 0;have hfz8_1:=blk_frozen BK136.out 1;have hfz8_2:=blk_frozen BK136.out 2) | ((with_reducible refine gate_callee (f:=38) rfl ?_);refine goesL_ (some 5) rfl rfl Tryd.func38 (by kernel_rfl) rfl #[.string a0_0] rfl q19_ ?_;(with_reducible refine (impl_NameOk.calls k a0_0 true _ A2.out).mono ?_);rintro e w' ⟨rfl,⟨nd,rfl⟩⟩;refine ⟨_,rfl,?_⟩) | (go_at_call 90;(with_reducible refine (impl_isByte.calls a0_1 true _ A4.out).mono ?_);rintro e w' ⟨rfl,⟨nd,rfl⟩⟩) | (go_at_call 91;(with_reducible refine (impl_isWord.calls a0_2 t139 _ A6.out).mono ?_);rintro e w' ⟨rfl,⟨nd,rfl⟩⟩))
   go_ret
   exact ⟨q21_,q11_⟩
  replace c5:=Bool.eq_false_iff.mpr c5
  subst c5
  rewrite [if_neg (show ¬ (false = true) by decide)] at H
  obtain rfl:=Option.some.inj H
  go_enter Tryd.func67,Tryd.ntmps67
  go_wp2_with (first | ((with_reducible refine gate_dst (N:=1) rfl ?_);refine box_event ?hg (N:=1) ?hd (cs:=#[.string a0_0,.int .i64 a0_1,.int .i64 a0_2]) (t:=54) ?hr ?_;(case hd => rfl);(case hg => rfl);(case hr => exact q51_);intro gb136 hg w9 hbox hb;have n0_:=Aside0.mk (below_step q20_ hb);have n1_:=Aside0.mk (hbox);have n2_:=Aside0.mk ((q10_:w.heap.size ≤ gb136));have n3_:=Aside0.mk ((q10_:w.heap.size ≤ gb136));clear HB;have HB:=n0_;have BK136:=n1_;have GW136:=n2_;have GE136:=n3_;clear n0_ n1_ n2_ n3_;clear hb hbox hg;have hcz10_0:w9.cell? ⟨gb136,0,none⟩ = some (.string a0_0):=(blk_cell BK136.out 0).trans rfl;have hcz10_1:w9.cell? ⟨gb136,1,none⟩ = some (.int .i64 a0_1):=(blk_cell BK136.out 1).trans rfl;have hcz10_2:w9.cell? ⟨gb136,2,none⟩ = some (.int .i64 a0_2):=(blk_cell BK136.out 2).trans rfl;have hfz10_0:=blk_frozen BK136.out 0;have hfz10_1:=blk_frozen BK136.out 1;have hfz10_2:=blk_frozen BK136.out 2) | ((with_reducible refine gate_callee (f:=38) rfl ?_);refine goesL_ (some 5) rfl rfl Tryd.func38 (by kernel_rfl) rfl #[.string a0_0] rfl q19_ ?_;(with_reducible refine (impl_NameOk.calls k a0_0 true _ A2.out).mono ?_);rintro e w' ⟨rfl,⟨nd,rfl⟩⟩;refine ⟨_,rfl,?_⟩) | (go_at_call 90;(with_reducible refine (impl_isByte.calls a0_1 false _ A4.out).mono ?_);rintro e w' ⟨rfl,⟨nd,rfl⟩⟩))
  go_ret
  exact ⟨q21_,q11_⟩
 replace c3:=Bool.eq_false_iff.mpr c3
 subst c3
 rewrite [if_neg (show ¬ (false = true) by decide)] at H
 obtain rfl:=Option.some.inj H
 go_enter Tryd.func67,Tryd.ntmps67
 go_wp2_with (first | ((with_reducible refine gate_dst (N:=1) rfl ?_);refine box_event ?hg (N:=1) ?hd (cs:=#[.string a0_0,.int .i64 a0_1,.int .i64 a0_2]) (t:=54) ?hr ?_;(case hd => rfl);(case hg => rfl);(case hr => exact q51_);intro gb136 hg w11 hbox hb;have n0_:=Aside0.mk (below_step q20_ hb);have n1_:=Aside0.mk (hbox);have n2_:=Aside0.mk ((q10_:w.heap.size ≤ gb136));have n3_:=Aside0.mk ((q10_:w.heap.size ≤ gb136));clear HB;have HB:=n0_;have BK136:=n1_;have GW136:=n2_;have GE136:=n3_;clear n0_ n1_ n2_ n3_;clear hb hbox hg;have hcz12_0:w11.cell? ⟨gb136,0,none⟩ = some (.string a0_0):=(blk_cell BK136.out 0).trans rfl;have hcz12_1:w11.cell? ⟨gb136,1,none⟩ = some (.int .i64 a0_1):=(blk_cell BK136.out 1).trans rfl;have hcz12_2:w11.cell? ⟨gb136,2,none⟩ = some (.int .i64 a0_2):=(blk_cell BK136.out 2).trans rfl;have hfz12_0:=blk_frozen BK136.out 0;have hfz12_1:=blk_frozen BK136.out 1;have hfz12_2:=blk_frozen BK136.out 2) | ((with_reducible refine gate_callee (f:=38) rfl ?_);refine goesL_ (some 5) rfl rfl Tryd.func38 (by kernel_rfl) rfl #[.string a0_0] rfl q19_ ?_;(with_reducible refine (impl_NameOk.calls k a0_0 false _ A2.out).mono ?_);rintro e w' ⟨rfl,⟨nd,rfl⟩⟩;refine ⟨_,rfl,?_⟩))
 go_ret
 exact ⟨q21_,q11_⟩
end Go.Proofs.YtoiiaklmjpiejaaDoor.QFnSymTexts
