/- The machine's side of a law,written by a program of this session for this claim. -/
import Derived.Test.YtabbdfchibjndaaGreatDoorXQq
import Derived.Test.YtabbdfchibjndaaGreatDoorXQFnExprTextsx0
import Derived.Test.YtabbdfchibjndaaGreatDoorXQFnExprTextsx4
namespace Go.Proofs.YtabbdfchibjndaaGreatDoor.QFnExprTexts
open Go.Proofs.YtabbdfchibjndaaGreatDoor.Qq
open Go.RowKit Go.Proofs.YtabbdfchibjndaaGreatDoor.LibX Go.Proofs.YtabbdfchibjndaaGreatDoor.LibE Go.Proofs.YtabbdfchibjndaaGreatDoor.LibG Go.Proofs.YtabbdfchibjndaaGreatDoor.LibCv Go.Proofs.YtabbdfchibjndaaGreatDoorW.PrintWords Go.Proofs.YtabbdfchibjndaaGreatDoorW.PrintLast Go.Proofs.YtabbdfchibjndaaGreatDoorW.PrintMore
attribute [local go_sem] max2_int min2_int max_two min_two max_three min_three max_four min_four   -- for this text's walks alone
set_option maxHeartbeats 8000000
set_option maxRecDepth 100000
set_option linter.unusedVariables false
set_option linter.unusedSimpArgs false
mutual
def impl_NameOk.j0:Nat → ByteArray → Bool → Option (Bool)
 | 0,_,_ => none
 | k + 1,x0,x12 => if x12 = true then (some false) else (impl_NameOk.l0 k x0 (x0.size:Int) 0)
def impl_NameOk.l0:Nat → ByteArray → Int → Int → Option (Bool)
 | 0,_,_,_ => none
 | k + 1,x0,x14,x15 => if x15 < x14 then (if 0 ≤ x15 then (if x15 < (x0.size:Int) then ((impl_isSmall.f (bt x0 x15)).bind fun t206 => (if t206 = true then (impl_NameOk.j2 k x0 x14 x15 false) else ((impl_isDigit.f (bt x0 x15)).bind fun t207 => (if t207 = true then (impl_NameOk.j2 k x0 x14 x15 false) else (if (bt x0 x15) = 95 then (impl_NameOk.j2 k x0 x14 x15 false) else (impl_NameOk.j2 k x0 x14 x15 ((bt x0 x15) != 46))))))) else (none)) else (none)) else (some true)
def impl_NameOk.j2:Nat → ByteArray → Int → Int → Bool → Option (Bool)
 | 0,_,_,_,_ => none
 | k + 1,x0,x14,x15,x41 => if x41 = true then (some false) else (impl_NameOk.l0 k x0 x14 (wrap64 (x15 + 1)))
end
def impl_NameOk.f (k:Nat) (a0:ByteArray):Option (Bool):=(impl_within.f (a0.size:Int) 1 16).bind fun t204 => (if t204 = true then (if 0 < (a0.size:Int) then ((impl_isDigit.f (bt a0 0)).bind fun t205 => (impl_NameOk.j0 k a0 t205)) else (none)) else (impl_NameOk.j0 k a0 true))
theorem impl_NameOk.mono_l:∀ k,(∀ y0 y1,LeO (impl_NameOk.j0 k y0 y1) (impl_NameOk.j0 (k + 1) y0 y1)) ∧ (∀ y0 y1 y2,LeO (impl_NameOk.l0 k y0 y1 y2) (impl_NameOk.l0 (k + 1) y0 y1 y2)) ∧ (∀ y0 y1 y2 y3,LeO (impl_NameOk.j2 k y0 y1 y2 y3) (impl_NameOk.j2 (k + 1) y0 y1 y2 y3))
 | 0 => ⟨fun _ _ r h => by simp [impl_NameOk.j0] at h,fun _ _ _ r h => by simp [impl_NameOk.l0] at h,fun _ _ _ _ r h => by simp [impl_NameOk.j2] at h⟩
 | k + 1 => by
  obtain ⟨ih0,ih1,ih2⟩:=impl_NameOk.mono_l k
  refine ⟨?_,?_,?_⟩
  ·intro y0 y1
   unfold impl_NameOk.j0
   repeat' first
   | (with_reducible first | exact ih0 _ _ | exact ih1 _ _ _ | exact ih2 _ _ _ _ | exact LeO.refl _ | exact LeO.none _ | refine LeO.ite ?_ ?_ | refine LeO.bind ?_ (fun _ => ?_))
   | exact ih0 _ _
   | exact ih1 _ _ _
   | exact ih2 _ _ _ _
   | exact LeO.none _
   | refine LeO.ite ?_ ?_
   | refine LeO.bind ?_ (fun _ => ?_)
  ·intro y0 y1 y2
   unfold impl_NameOk.l0
   repeat' first
   | (with_reducible first | exact ih0 _ _ | exact ih1 _ _ _ | exact ih2 _ _ _ _ | exact LeO.refl _ | exact LeO.none _ | refine LeO.ite ?_ ?_ | refine LeO.bind ?_ (fun _ => ?_))
   | exact ih0 _ _
   | exact ih1 _ _ _
   | exact ih2 _ _ _ _
   | exact LeO.none _
   | refine LeO.ite ?_ ?_
   | refine LeO.bind ?_ (fun _ => ?_)
  intro y0 y1 y2 y3
  unfold impl_NameOk.j2
  repeat' first
  | (with_reducible first | exact ih0 _ _ | exact ih1 _ _ _ | exact ih2 _ _ _ _ | exact LeO.refl _ | exact LeO.none _ | refine LeO.ite ?_ ?_ | refine LeO.bind ?_ (fun _ => ?_))
  | exact ih0 _ _
  | exact ih1 _ _ _
  | exact ih2 _ _ _ _
  | exact LeO.none _
  | refine LeO.ite ?_ ?_
  | refine LeO.bind ?_ (fun _ => ?_)
theorem impl_NameOk.mono:∀ a0 k,LeO (impl_NameOk.f k a0) (impl_NameOk.f (k + 1) a0):=by
 intro a0 k
 obtain ⟨ih0,ih1,ih2⟩:=impl_NameOk.mono_l k
 unfold impl_NameOk.f
 repeat' first
   | (with_reducible first | exact ih0 _ _ | exact ih1 _ _ _ | exact ih2 _ _ _ _ | exact LeO.refl _ | exact LeO.none _ | refine LeO.ite ?_ ?_ | refine LeO.bind ?_ (fun _ => ?_))
   | exact ih0 _ _
   | exact ih1 _ _ _
   | exact ih2 _ _ _ _
   | exact LeO.none _
   | refine LeO.ite ?_ ?_
   | refine LeO.bind ?_ (fun _ => ?_)
theorem impl_NameOk.calls (k:Nat) (a0:ByteArray) (r:Bool) (w:World) (h:impl_NameOk.f k a0 = some r) :
  Calls Tryz.prog 38 #[.string a0] w fun e w' => e = .returned (.bool r) ∧ Drawn0 w w':=by
 have H:=h;unfold impl_NameOk.f at H
 clear h
 have HC2:=Aside0.mk H
 clear H
 go_enter Tryz.func38,Tryz.ntmps38
 go_upto_region 1 with (fail)
 go_cut [12] (fun v12 wc => ∃ (kq:Nat) (x12_1:Bool),v12 = .bool x12_1 ∧ Aside0 (impl_NameOk.j0 kq a0 x12_1 = some r) ∧ Aside0 (kq ≤ k) ∧ Drawn0 w wc)
 case first =>
  have H:=HC2.out
  clear HC2
  replace H:=Option.bind_eq_some_iff.mp H
  obtain ⟨t204,A30,H⟩:=H
  have A3:=Aside0.mk A30
  clear A30
  by_cases c4:t204 = true
  ·subst c4
   rewrite [if_pos rfl] at H
   by_cases c5:0 < (a0.size:Int)
   rotate_left
   ·rw [if_neg c5] at H
    exact absurd H (by simp)
   rw [if_pos c5] at H
   have c5b0:=decide_eq_true c5
   have c5b1:decide (0 < a0.size) = true:=decide_eq_true (by omega)
   clear c5
   (first | rw [c5b0] | (simp only [i64_w,i32_w];rw [c5b0]) | rw [c5b9] | skip)
   replace H:=Option.bind_eq_some_iff.mp H
   obtain ⟨t205,A70,H⟩:=H
   have A7:=Aside0.mk A70
   clear A70
   have H':=Aside0.mk H
   clear H
   go_wp2_with (first | ((with_reducible refine gate_callee (f:=39) rfl ?_);refine goesL_ (some 6) rfl rfl Tryz.func39 (by kernel_rfl) rfl #[.int .i64 (a0.size:Int),.int .i64 1,.int .i64 16] rfl q22_ ?_;(with_reducible refine (impl_within.calls (a0.size:Int) 1 16 true _ A3.out).mono ?_);rintro e w' ⟨rfl,⟨nd,rfl⟩⟩;refine ⟨_,rfl,?_⟩;have p6:0 ≤ (0:Int):=(by omega);have q6:0 < a0.size:=(by have:(0:Int) < (a0.size:Int):=of_decide_eq_true q46_;omega);have hx6:∀ h:0 < a0.size,((a0[0]'h).toNat:Int) = bt a0 0:=bt_at a0 0;clear p6;have qi6:(0 < (a0.size:Int)) = True:=eq_true (of_decide_eq_true q46_);replace q6:=eq_true q6) | (go_at_call 61;(with_reducible refine (impl_isDigit.calls (bt a0 0) t205 _ A7.out).mono ?_);rintro e w' ⟨rfl,⟨nd,rfl⟩⟩))
   go_meet
   case rel => exact ⟨_,(t205),q31_,H',⟨q48_⟩,q44_⟩
  replace c4:=Bool.eq_false_iff.mpr c4
  subst c4
  rewrite [if_neg (show ¬ (false = true) by decide)] at H
  have H':=Aside0.mk H
  clear H
  go_wp2_with (first | ((with_reducible refine gate_callee (f:=39) rfl ?_);refine goesL_ (some 6) rfl rfl Tryz.func39 (by kernel_rfl) rfl #[.int .i64 (a0.size:Int),.int .i64 1,.int .i64 16] rfl q22_ ?_;(with_reducible refine (impl_within.calls (a0.size:Int) 1 16 false _ A3.out).mono ?_);rintro e w' ⟨rfl,⟨nd,rfl⟩⟩;refine ⟨_,rfl,?_⟩))
  go_meet
  case rel => exact ⟨_,(true),q31_,H',⟨q48_⟩,q44_⟩
 clear HC2
 try clear p2
 try clear c3
 try clear c4
 try clear c5
 try clear c5b0
 try clear c5b1
 try clear p6 p6
 try clear q6 q6
 try clear hx6
 try clear qi6
 obtain ⟨kq,x12_1,rfl,HA,HJ1,⟨mc1,rfl⟩⟩:=hcut
 cases kq with
 | zero => exact absurd HA.out (by simp [impl_NameOk.j0])
 | succ kj1 =>
  have H:=HA.out
  clear HA
  simp only [impl_NameOk.j0] at H
  by_cases c8:x12_1 = true
  ·subst c8
   rewrite [if_pos rfl] at H
   obtain rfl:=Option.some.inj H
   go_wp2
   go_ret
   exact ⟨q31_,q44_⟩
  replace c8:=Bool.eq_false_iff.mpr c8
  subst c8
  rewrite [if_neg (show ¬ (false = true) by decide)] at H
  have H':=Aside0.mk H
  clear H
  go_wp2
  go_loopg [15] kj1 (fun kq v15 w' => ∃ (x15_2:Int),v15 = .int .i64 x15_2 ∧ Aside0 (impl_NameOk.l0 kq a0 (a0.size:Int) x15_2 = some r) ∧ Aside0 (kq ≤ kj1) ∧ Drawn0 w w')
  case atStart => exact ⟨(0),q31_,H',⟨Nat.le_refl _⟩,q44_⟩
  clear H'
  try clear c1
  try clear p2 p2
  try clear c3
  try clear c4
  try clear c5
  try clear c5b0
  try clear c5b1
  try clear p6 p6
  try clear q6 q6
  try clear hx6
  try clear qi6
  try clear c8
  obtain ⟨x15_2,rfl,HA,HK2,⟨m2,rfl⟩⟩:=hrel
  cases gk with
  | zero => exact absurd HA.out (by simp [impl_NameOk.l0])
  | succ k2 =>
   have H:=HA.out
   clear HA
   simp only [impl_NameOk.l0] at H
   by_cases c9:x15_2 < (a0.size:Int)
   ·rw [if_pos c9] at H
    have c9b0:=decide_eq_true c9
    clear c9
    have HC10:=Aside0.mk H
    clear H
    go_upto_region 6 with (fail)
    go_cut [41] (fun v41 wc => ∃ (kq:Nat) (x41_9:Bool),v41 = .bool x41_9 ∧ Aside0 (impl_NameOk.j2 kq a0 (a0.size:Int) x15_2 x41_9 = some r) ∧ Aside0 (kq ≤ k2) ∧ Drawn0 w wc)
    case first =>
     have H:=HC10.out
     clear HC10
     by_cases c11:0 ≤ x15_2
     rotate_left
     ·rw [if_neg c11] at H
      exact absurd H (by simp)
     rw [if_pos c11] at H
     have c11b0:=decide_eq_true c11
     clear c11
     (first | rw [c11b0] | (simp only [i64_w,i32_w];rw [c11b0]) | rw [c11b9] | skip)
     by_cases c12:x15_2 < (a0.size:Int)
     rotate_left
     ·rw [if_neg c12] at H
      exact absurd H (by simp)
     rw [if_pos c12] at H
     have c12b0:=decide_eq_true c12
     clear c12
     replace H:=Option.bind_eq_some_iff.mp H
     obtain ⟨t206,A140,H⟩:=H
     have A14:=Aside0.mk A140
     clear A140
     by_cases c15:t206 = true
     ·subst c15
      rewrite [if_pos rfl] at H
      have H':=Aside0.mk H
      clear H
      have p13:0 ≤ (x15_2:Int):=of_decide_eq_true q46_
      have q13:x15_2 < (a0.size:Int):=of_decide_eq_true q46_
      have hx13:=bt_at a0 x15_2
      replace p13:=eq_true p13
      replace q13:=eq_true q13
      go_wp2_with (first | ((with_reducible refine gate_callee (f:=62) rfl ?_);refine goesL_ (some 21) rfl rfl Tryz.func62 (by kernel_rfl) rfl #[.int .u8 (bt a0 x15_2)] rfl q22_ ?_;(with_reducible refine (impl_isSmall.calls (bt a0 x15_2) true _ A14.out).mono ?_);rintro e w' ⟨rfl,⟨nd,rfl⟩⟩;refine ⟨_,rfl,?_⟩))
      go_meet
      case rel => exact ⟨_,(false),q31_,H',⟨q43_⟩,q44_⟩
     replace c15:=Bool.eq_false_iff.mpr c15
     subst c15
     rewrite [if_neg (show ¬ (false = true) by decide)] at H
     replace H:=Option.bind_eq_some_iff.mp H
     obtain ⟨t207,A170,H⟩:=H
     have A17:=Aside0.mk A170
     clear A170
     by_cases c18:t207 = true
     ·subst c18
      rewrite [if_pos rfl] at H
      have H':=Aside0.mk H
      clear H
      have p13:0 ≤ (x15_2:Int):=of_decide_eq_true q46_
      have q13:x15_2 < (a0.size:Int):=of_decide_eq_true q46_
      have hx13:=bt_at a0 x15_2
      replace p13:=eq_true p13
      replace q13:=eq_true q13
      go_wp2_with (first | ((with_reducible refine gate_callee (f:=62) rfl ?_);refine goesL_ (some 21) rfl rfl Tryz.func62 (by kernel_rfl) rfl #[.int .u8 (bt a0 x15_2)] rfl q22_ ?_;(with_reducible refine (impl_isSmall.calls (bt a0 x15_2) false _ A14.out).mono ?_);rintro e w' ⟨rfl,⟨nd,rfl⟩⟩;refine ⟨_,rfl,?_⟩;have p16:0 ≤ (x15_2:Int):=of_decide_eq_true q46_;have q16:x15_2 < (a0.size:Int):=of_decide_eq_true q46_;have hx16:=bt_at a0 x15_2;replace p16:=eq_true p16;replace q16:=eq_true q16) | (go_at_call 61;(with_reducible refine (impl_isDigit.calls (bt a0 x15_2) true _ A17.out).mono ?_);rintro e w' ⟨rfl,⟨nd,rfl⟩⟩))
      go_meet
      case rel => exact ⟨_,(false),q31_,H',⟨q43_⟩,q44_⟩
     replace c18:=Bool.eq_false_iff.mpr c18
     subst c18
     rewrite [if_neg (show ¬ (false = true) by decide)] at H
     by_cases c20:(bt a0 x15_2) = 95
     ·rw [if_pos c20] at H
      have c20b0:((bt a0 x15_2) == 95) = true:=beq_iff_eq.mpr c20
      have c20b1:((bt a0 x15_2) != 95) = false:=bne_eq_false_iff_eq.mpr c20
      clear c20
      have H':=Aside0.mk H
      clear H
      have p13:0 ≤ (x15_2:Int):=of_decide_eq_true q46_
      have q13:x15_2 < (a0.size:Int):=of_decide_eq_true q46_
      have hx13:=bt_at a0 x15_2
      replace p13:=eq_true p13
      replace q13:=eq_true q13
      go_wp2_with (first | ((with_reducible refine gate_callee (f:=62) rfl ?_);refine goesL_ (some 21) rfl rfl Tryz.func62 (by kernel_rfl) rfl #[.int .u8 (bt a0 x15_2)] rfl q22_ ?_;(with_reducible refine (impl_isSmall.calls (bt a0 x15_2) false _ A14.out).mono ?_);rintro e w' ⟨rfl,⟨nd,rfl⟩⟩;refine ⟨_,rfl,?_⟩;have p16:0 ≤ (x15_2:Int):=of_decide_eq_true q46_;have q16:x15_2 < (a0.size:Int):=of_decide_eq_true q46_;have hx16:=bt_at a0 x15_2;replace p16:=eq_true p16;replace q16:=eq_true q16) | (go_at_call 61;(with_reducible refine (impl_isDigit.calls (bt a0 x15_2) false _ A17.out).mono ?_);rintro e w' ⟨rfl,⟨nd,rfl⟩⟩;have p19:0 ≤ (x15_2:Int):=of_decide_eq_true q46_;have q19:x15_2 < (a0.size:Int):=of_decide_eq_true q46_;have hx19:=bt_at a0 x15_2;replace p19:=eq_true p19;replace q19:=eq_true q19))
      go_meet
      case rel => exact ⟨_,(false),q31_,H',⟨q43_⟩,q44_⟩
     rw [if_neg c20] at H
     have c20b0:((bt a0 x15_2) == 95) = false:=beq_eq_false_iff_ne.mpr c20
     have c20b1:((bt a0 x15_2) != 95) = true:=bne_iff_ne.mpr c20
     have H':=Aside0.mk H
     clear H
     have p13:0 ≤ (x15_2:Int):=of_decide_eq_true q46_
     have q13:x15_2 < (a0.size:Int):=of_decide_eq_true q46_
     have hx13:=bt_at a0 x15_2
     replace p13:=eq_true p13
     replace q13:=eq_true q13
     go_wp2_with (first | ((with_reducible refine gate_callee (f:=62) rfl ?_);refine goesL_ (some 21) rfl rfl Tryz.func62 (by kernel_rfl) rfl #[.int .u8 (bt a0 x15_2)] rfl q22_ ?_;(with_reducible refine (impl_isSmall.calls (bt a0 x15_2) false _ A14.out).mono ?_);rintro e w' ⟨rfl,⟨nd,rfl⟩⟩;refine ⟨_,rfl,?_⟩;have p16:0 ≤ (x15_2:Int):=of_decide_eq_true q46_;have q16:x15_2 < (a0.size:Int):=of_decide_eq_true q46_;have hx16:=bt_at a0 x15_2;replace p16:=eq_true p16;replace q16:=eq_true q16) | (go_at_call 61;(with_reducible refine (impl_isDigit.calls (bt a0 x15_2) false _ A17.out).mono ?_);rintro e w' ⟨rfl,⟨nd,rfl⟩⟩;have p19:0 ≤ (x15_2:Int):=of_decide_eq_true q46_;have q19:x15_2 < (a0.size:Int):=of_decide_eq_true q46_;have hx19:=bt_at a0 x15_2;replace p19:=eq_true p19;replace q19:=eq_true q19;have p21:0 ≤ (x15_2:Int):=of_decide_eq_true q46_;have q21:x15_2 < (a0.size:Int):=of_decide_eq_true q46_;have hx21:=bt_at a0 x15_2;replace p21:=eq_true p21;replace q21:=eq_true q21))
     go_meet
     case rel => exact ⟨_,(((bt a0 x15_2) != 46)),q31_,H',⟨q43_⟩,q44_⟩
    clear HC10
    try clear c1
    try clear p1
    try clear q1
    try clear hx1
    try clear c2
    try clear p2 p2
    try clear q2
    try clear hx2
    try clear c3
    try clear c4
    try clear c5
    try clear c5b0
    try clear c5b1
    try clear c6
    try clear p6 p6
    try clear q6 q6
    try clear hx6
    try clear qi6
    try clear c8
    try clear c9
    try clear c9b0
    try clear c11
    try clear c11b0
    try clear c12
    try clear c12b0
    try clear p13 p13
    try clear q13 q13
    try clear hx13
    try clear c15
    try clear p16 p16
    try clear q16 q16
    try clear hx16
    try clear c18
    try clear p19 p19
    try clear q19 q19
    try clear hx19
    try clear c20
    try clear c20b0
    try clear c20b1
    try clear p21 p21
    try clear q21 q21
    try clear hx21
    obtain ⟨kq,x41_9,rfl,HA,HJ9,⟨mc9,rfl⟩⟩:=hcut
    cases kq with
    | zero => exact absurd HA.out (by simp [impl_NameOk.j2])
    | succ kj9 =>
     have H:=HA.out
     clear HA
     simp only [impl_NameOk.j2] at H
     by_cases c22:x41_9 = true
     ·subst c22
      rewrite [if_pos rfl] at H
      obtain rfl:=Option.some.inj H
      go_wp2
      go_ret
      exact ⟨q31_,q44_⟩
     replace c22:=Bool.eq_false_iff.mpr c22
     subst c22
     rewrite [if_neg (show ¬ (false = true) by decide)] at H
     have H':=Aside0.mk H
     clear H
     go_wp2
     go_roundg kj9
     case measure => have:=HJ1.out;have:=HK2.out;have:=HJ9.out;omega
     case rel => exact ⟨(wrap64 (x15_2 + 1)),q31_,H',⟨by have:=HJ1.out;have:=HK2.out;have:=HJ9.out;omega⟩,q44_⟩
   rw [if_neg c9] at H
   have c9b0:=decide_eq_false c9
   clear c9
   obtain rfl:=Option.some.inj H
   go_wp2
   go_ret
   exact ⟨q31_,q44_⟩
def impl_isNode.j0:Nat → Bool → Int → Int → ByteArray → Option (Bool)
 | 0,_,_,_,_ => none
 | k + 1,x15,x209000,x209001,x209002 => if x15 = true then (if x209001 = 0 then ((impl_NameOk.f k x209002).bind fun t210 => (some t210)) else (some false)) else ((impl_within.f x209000 4 17).bind fun t211 => (if t211 = true then (if x209001 = 0 then (some (x209002.toList == ([]:List UInt8))) else (some false)) else (some false)))
def impl_isNode.f (k:Nat) (a0_0:Int) (a0_1:Int) (a0_2:ByteArray):Option (Bool):=if a0_0 = 1 then ((impl_isWord.f a0_1).bind fun t209 => (if t209 = true then (some (a0_2.toList == ([]:List UInt8))) else (some false))) else (if a0_0 = 2 then (impl_isNode.j0 k true a0_0 a0_1 a0_2) else (impl_isNode.j0 k (a0_0 == 3) a0_0 a0_1 a0_2))
theorem impl_isNode.mono_l:∀ k,(∀ y0 y1 y2 y3,LeO (impl_isNode.j0 k y0 y1 y2 y3) (impl_isNode.j0 (k + 1) y0 y1 y2 y3))
 | 0 => fun _ _ _ _ r h => by simp [impl_isNode.j0] at h
 | k + 1 => by
  have ih0:=impl_isNode.mono_l k
  intro y0 y1 y2 y3
  unfold impl_isNode.j0
  repeat' first
  | (with_reducible first | exact ih0 _ _ _ _ | exact impl_NameOk.mono _ _ | exact LeO.refl _ | exact LeO.none _ | refine LeO.ite ?_ ?_ | refine LeO.bind ?_ (fun _ => ?_))
  | exact ih0 _ _ _ _
  | exact impl_NameOk.mono _ _
  | exact LeO.none _
  | refine LeO.ite ?_ ?_
  | refine LeO.bind ?_ (fun _ => ?_)
theorem impl_isNode.mono:∀ a0 a1 a2 k,LeO (impl_isNode.f k a0 a1 a2) (impl_isNode.f (k + 1) a0 a1 a2):=by
 intro a0 a1 a2 k
 have ih0:=impl_isNode.mono_l k
 unfold impl_isNode.f
 repeat' first
   | (with_reducible first | exact ih0 _ _ _ _ | exact impl_NameOk.mono _ _ | exact LeO.refl _ | exact LeO.none _ | refine LeO.ite ?_ ?_ | refine LeO.bind ?_ (fun _ => ?_))
   | exact ih0 _ _ _ _
   | exact impl_NameOk.mono _ _
   | exact LeO.none _
   | refine LeO.ite ?_ ?_
   | refine LeO.bind ?_ (fun _ => ?_)
theorem impl_isNode.calls (k:Nat) (a0_0:Int) (a0_1:Int) (a0_2:ByteArray) (r:Bool) (w:World) (h:impl_isNode.f k a0_0 a0_1 a0_2 = some r) :
  Calls Tryz.prog 23 #[.agg #[.int .i64 a0_0,.int .i64 a0_1,.string a0_2]] w fun e w' => e = .returned (.bool r) ∧ Below w.heap.size w w':=by
 have hu43:=Tryz.underlying43
 have HB:=Aside0.mk (Below.refl w.heap.size w)
 have H:=h;unfold impl_isNode.f at H
 clear h
 by_cases c2:a0_0 = 1
 ·rw [if_pos c2] at H
  have c2b0:(a0_0 == 1) = true:=beq_iff_eq.mpr c2
  have c2b1:(a0_0 != 1) = false:=bne_eq_false_iff_eq.mpr c2
  clear c2
  replace H:=Option.bind_eq_some_iff.mp H
  obtain ⟨t209,A30,H⟩:=H
  have A3:=Aside0.mk A30
  clear A30
  by_cases c4:t209 = true
  ·subst c4
   rewrite [if_pos rfl] at H
   obtain rfl:=Option.some.inj H
   go_enter Tryz.func23,Tryz.ntmps23
   go_wp2_with (first | ((with_reducible refine gate_dst (N:=1) rfl ?_);refine box_event ?hg (N:=1) ?hd (cs:=#[.int .i64 a0_0,.int .i64 a0_1,.string a0_2]) (t:=43) ?hr ?_;(case hd => rfl);(case hg => rfl);(case hr => exact q59_);intro gb208 hg w5 hbox hb;have n0_:=Aside0.mk (below_step q24_ hb);have n1_:=Aside0.mk (hbox);have n2_:=Aside0.mk ((q11_:w.heap.size ≤ gb208));have n3_:=Aside0.mk ((q11_:w.heap.size ≤ gb208));clear HB;have HB:=n0_;have BK208:=n1_;have GW208:=n2_;have GE208:=n3_;clear n0_ n1_ n2_ n3_;clear hb hbox hg;have hcz6_0:w5.cell? ⟨gb208,0,none⟩ = some (.int .i64 a0_0):=(blk_cell BK208.out 0).trans rfl;have hcz6_1:w5.cell? ⟨gb208,1,none⟩ = some (.int .i64 a0_1):=(blk_cell BK208.out 1).trans rfl;have hcz6_2:w5.cell? ⟨gb208,2,none⟩ = some (.string a0_2):=(blk_cell BK208.out 2).trans rfl;have hfz6_0:=blk_frozen BK208.out 0;have hfz6_1:=blk_frozen BK208.out 1;have hfz6_2:=blk_frozen BK208.out 2) | ((with_reducible refine gate_callee (f:=37) rfl ?_);refine goesL_ (some 9) rfl rfl Tryz.func37 (by kernel_rfl) rfl #[.int .i64 a0_1] rfl q22_ ?_;(with_reducible refine (impl_isWord.calls a0_1 true _ A3.out).mono ?_);rintro e w' ⟨rfl,⟨nd,rfl⟩⟩;refine ⟨_,rfl,?_⟩))
   go_ret
   exact ⟨q26_,q12_⟩
  replace c4:=Bool.eq_false_iff.mpr c4
  subst c4
  rewrite [if_neg (show ¬ (false = true) by decide)] at H
  obtain rfl:=Option.some.inj H
  go_enter Tryz.func23,Tryz.ntmps23
  go_wp2_with (first | ((with_reducible refine gate_dst (N:=1) rfl ?_);refine box_event ?hg (N:=1) ?hd (cs:=#[.int .i64 a0_0,.int .i64 a0_1,.string a0_2]) (t:=43) ?hr ?_;(case hd => rfl);(case hg => rfl);(case hr => exact q59_);intro gb208 hg w7 hbox hb;have n0_:=Aside0.mk (below_step q24_ hb);have n1_:=Aside0.mk (hbox);have n2_:=Aside0.mk ((q11_:w.heap.size ≤ gb208));have n3_:=Aside0.mk ((q11_:w.heap.size ≤ gb208));clear HB;have HB:=n0_;have BK208:=n1_;have GW208:=n2_;have GE208:=n3_;clear n0_ n1_ n2_ n3_;clear hb hbox hg;have hcz8_0:w7.cell? ⟨gb208,0,none⟩ = some (.int .i64 a0_0):=(blk_cell BK208.out 0).trans rfl;have hcz8_1:w7.cell? ⟨gb208,1,none⟩ = some (.int .i64 a0_1):=(blk_cell BK208.out 1).trans rfl;have hcz8_2:w7.cell? ⟨gb208,2,none⟩ = some (.string a0_2):=(blk_cell BK208.out 2).trans rfl;have hfz8_0:=blk_frozen BK208.out 0;have hfz8_1:=blk_frozen BK208.out 1;have hfz8_2:=blk_frozen BK208.out 2) | ((with_reducible refine gate_callee (f:=37) rfl ?_);refine goesL_ (some 9) rfl rfl Tryz.func37 (by kernel_rfl) rfl #[.int .i64 a0_1] rfl q22_ ?_;(with_reducible refine (impl_isWord.calls a0_1 false _ A3.out).mono ?_);rintro e w' ⟨rfl,⟨nd,rfl⟩⟩;refine ⟨_,rfl,?_⟩))
  go_ret
  exact ⟨q26_,q12_⟩
 rw [if_neg c2] at H
 have c2b0:(a0_0 == 1) = false:=beq_eq_false_iff_ne.mpr c2
 have c2b1:(a0_0 != 1) = true:=bne_iff_ne.mpr c2
 have HC9:=Aside0.mk H
 clear H
 go_enter Tryz.func23,Tryz.ntmps23
 go_upto_region 3 with (first | ((with_reducible refine gate_dst (N:=1) rfl ?_);refine box_event ?hg (N:=1) ?hd (cs:=#[.int .i64 a0_0,.int .i64 a0_1,.string a0_2]) (t:=43) ?hr ?_;(case hd => rfl);(case hg => rfl);(case hr => exact q59_);intro gb208 hg w10 hbox hb;have n0_:=Aside0.mk (below_step q24_ hb);have n1_:=Aside0.mk (hbox);have n2_:=Aside0.mk ((q11_:w.heap.size ≤ gb208));have n3_:=Aside0.mk ((q11_:w.heap.size ≤ gb208));clear HB;have HB:=n0_;have BK208:=n1_;have GW208:=n2_;have GE208:=n3_;clear n0_ n1_ n2_ n3_;clear hb hbox hg;have hcz11_0:w10.cell? ⟨gb208,0,none⟩ = some (.int .i64 a0_0):=(blk_cell BK208.out 0).trans rfl;have hcz11_1:w10.cell? ⟨gb208,1,none⟩ = some (.int .i64 a0_1):=(blk_cell BK208.out 1).trans rfl;have hcz11_2:w10.cell? ⟨gb208,2,none⟩ = some (.string a0_2):=(blk_cell BK208.out 2).trans rfl;have hfz11_0:=blk_frozen BK208.out 0;have hfz11_1:=blk_frozen BK208.out 1;have hfz11_2:=blk_frozen BK208.out 2))
 (try simp only [Act.put,List.setIfInBounds_toArray,List.set_cons_zero,List.set_cons_succ])
 go_cut [15] (fun v15 wc => ∃ (kq:Nat) (x15_8:Bool),v15 = .bool x15_8 ∧ Aside0 (impl_isNode.j0 kq x15_8 a0_0 a0_1 a0_2 = some r) ∧ Aside0 (kq ≤ k) ∧ Aside0 (wc.heap[gb208]? = some (.cells #[.int .i64 a0_0,.int .i64 a0_1,.string a0_2] 43 (0,0))) ∧ Aside0 (Below w.heap.size w wc))
 case first =>
  have H:=HC9.out
  clear HC9
  by_cases c12:a0_0 = 2
  ·rw [if_pos c12] at H
   have c12b0:(a0_0 == 2) = true:=beq_iff_eq.mpr c12
   have c12b1:(a0_0 != 2) = false:=bne_eq_false_iff_eq.mpr c12
   clear c12
   (first | rw [c12b0] | (simp only [i64_w,i32_w];rw [c12b0]) | rw [c12b9] | skip)
   have H':=Aside0.mk H
   clear H
   have hcz13_0:w10.cell? ⟨gb208,0,none⟩ = some (.int .i64 a0_0):=bz_ BK208 0
   have hcz13_1:w10.cell? ⟨gb208,1,none⟩ = some (.int .i64 a0_1):=bz_ BK208 1
   have hcz13_2:w10.cell? ⟨gb208,2,none⟩ = some (.string a0_2):=bz_ BK208 2
   have hfz13_0:=blk_frozen BK208.out 0
   have hfz13_1:=blk_frozen BK208.out 1
   have hfz13_2:=blk_frozen BK208.out 2
   go_wp2
   go_meet
   case rel => exact ⟨_,(true),q31_,H',⟨q48_⟩,⟨q27_⟩,⟨q12_⟩⟩
  rw [if_neg c12] at H
  have c12b0:(a0_0 == 2) = false:=beq_eq_false_iff_ne.mpr c12
  have c12b1:(a0_0 != 2) = true:=bne_iff_ne.mpr c12
  (first | rw [c12b0] | (simp only [i64_w,i32_w];rw [c12b0]) | rw [c12b9] | skip)
  have H':=Aside0.mk H
  clear H
  have hcz14_0:w10.cell? ⟨gb208,0,none⟩ = some (.int .i64 a0_0):=bz_ BK208 0
  have hcz14_1:w10.cell? ⟨gb208,1,none⟩ = some (.int .i64 a0_1):=bz_ BK208 1
  have hcz14_2:w10.cell? ⟨gb208,2,none⟩ = some (.string a0_2):=bz_ BK208 2
  have hfz14_0:=blk_frozen BK208.out 0
  have hfz14_1:=blk_frozen BK208.out 1
  have hfz14_2:=blk_frozen BK208.out 2
  go_wp2
  go_meet
  case rel => exact ⟨_,((a0_0 == 3)),q31_,H',⟨q48_⟩,⟨q27_⟩,⟨q12_⟩⟩
 clear HC9
 try clear c1
 try clear c2
 try clear c2b0
 try clear c2b1
 try clear p2
 try clear c3
 try clear c4
 try clear p6
 try clear c12
 try clear c12b0
 try clear c12b1
 try clear hcz11_0 hcz11_1 hcz11_2
 try clear hcz13_0 hcz13_1 hcz13_2
 try clear hcz14_0 hcz14_1 hcz14_2
 try clear hcz6_0 hcz6_1 hcz6_2
 try clear hcz8_0 hcz8_1 hcz8_2
 try clear hfz11_0 hfz11_1 hfz11_2
 try clear hfz13_0 hfz13_1 hfz13_2
 try clear hfz14_0 hfz14_1 hfz14_2
 try clear hfz6_0 hfz6_1 hfz6_2
 try clear hfz8_0 hfz8_1 hfz8_2
 obtain ⟨kq,x15_8,rfl,HA,HJ8,BK208,HB⟩:=hcut
 cases kq with
 | zero => exact absurd HA.out (by simp [impl_isNode.j0])
 | succ kj8 =>
  have H:=HA.out
  clear HA
  simp only [impl_isNode.j0] at H
  by_cases c15:x15_8 = true
  ·subst c15
   rewrite [if_pos rfl] at H
   by_cases c16:a0_1 = 0
   ·rw [if_pos c16] at H
    have c16b0:(a0_1 == 0) = true:=beq_iff_eq.mpr c16
    have c16b1:(a0_1 != 0) = false:=bne_eq_false_iff_eq.mpr c16
    clear c16
    replace H:=Option.bind_eq_some_iff.mp H
    obtain ⟨t210,A170,H⟩:=H
    have A17:=Aside0.mk A170
    clear A170
    obtain rfl:=Option.some.inj H
    have hcz18_0:wc.cell? ⟨gb208,0,none⟩ = some (.int .i64 a0_0):=bz_ BK208 0
    have hcz18_1:wc.cell? ⟨gb208,1,none⟩ = some (.int .i64 a0_1):=bz_ BK208 1
    have hcz18_2:wc.cell? ⟨gb208,2,none⟩ = some (.string a0_2):=bz_ BK208 2
    have hfz18_0:=blk_frozen BK208.out 0
    have hfz18_1:=blk_frozen BK208.out 1
    have hfz18_2:=blk_frozen BK208.out 2
    go_wp2_with (first | (go_at_call 38;(with_reducible refine (impl_NameOk.calls kj8 a0_2 t210 _ A17.out).mono ?_);rintro e w' ⟨rfl,⟨nd,rfl⟩⟩))
    go_ret
    exact ⟨q26_,q12_⟩
   rw [if_neg c16] at H
   have c16b0:(a0_1 == 0) = false:=beq_eq_false_iff_ne.mpr c16
   have c16b1:(a0_1 != 0) = true:=bne_iff_ne.mpr c16
   obtain rfl:=Option.some.inj H
   have hcz19_0:wc.cell? ⟨gb208,0,none⟩ = some (.int .i64 a0_0):=bz_ BK208 0
   have hcz19_1:wc.cell? ⟨gb208,1,none⟩ = some (.int .i64 a0_1):=bz_ BK208 1
   have hcz19_2:wc.cell? ⟨gb208,2,none⟩ = some (.string a0_2):=bz_ BK208 2
   have hfz19_0:=blk_frozen BK208.out 0
   have hfz19_1:=blk_frozen BK208.out 1
   have hfz19_2:=blk_frozen BK208.out 2
   go_wp2
   go_ret
   exact ⟨q26_,q12_⟩
  replace c15:=Bool.eq_false_iff.mpr c15
  subst c15
  rewrite [if_neg (show ¬ (false = true) by decide)] at H
  replace H:=Option.bind_eq_some_iff.mp H
  obtain ⟨t211,A200,H⟩:=H
  have A20:=Aside0.mk A200
  clear A200
  by_cases c21:t211 = true
  ·subst c21
   rewrite [if_pos rfl] at H
   by_cases c22:a0_1 = 0
   ·rw [if_pos c22] at H
    have c22b0:(a0_1 == 0) = true:=beq_iff_eq.mpr c22
    have c22b1:(a0_1 != 0) = false:=bne_eq_false_iff_eq.mpr c22
    clear c22
    obtain rfl:=Option.some.inj H
    have hcz23_0:wc.cell? ⟨gb208,0,none⟩ = some (.int .i64 a0_0):=bz_ BK208 0
    have hcz23_1:wc.cell? ⟨gb208,1,none⟩ = some (.int .i64 a0_1):=bz_ BK208 1
    have hcz23_2:wc.cell? ⟨gb208,2,none⟩ = some (.string a0_2):=bz_ BK208 2
    have hfz23_0:=blk_frozen BK208.out 0
    have hfz23_1:=blk_frozen BK208.out 1
    have hfz23_2:=blk_frozen BK208.out 2
    go_wp2_with (first | ((with_reducible refine gate_callee (f:=39) rfl ?_);refine goesL_ (some 34) rfl rfl Tryz.func39 (by kernel_rfl) rfl #[.int .i64 a0_0,.int .i64 4,.int .i64 17] rfl q22_ ?_;(with_reducible refine (impl_within.calls a0_0 4 17 true _ A20.out).mono ?_);rintro e w' ⟨rfl,⟨nd,rfl⟩⟩;refine ⟨_,rfl,?_⟩))
    go_ret
    exact ⟨q26_,q12_⟩
   rw [if_neg c22] at H
   have c22b0:(a0_1 == 0) = false:=beq_eq_false_iff_ne.mpr c22
   have c22b1:(a0_1 != 0) = true:=bne_iff_ne.mpr c22
   obtain rfl:=Option.some.inj H
   have hcz24_0:wc.cell? ⟨gb208,0,none⟩ = some (.int .i64 a0_0):=bz_ BK208 0
   have hcz24_1:wc.cell? ⟨gb208,1,none⟩ = some (.int .i64 a0_1):=bz_ BK208 1
   have hcz24_2:wc.cell? ⟨gb208,2,none⟩ = some (.string a0_2):=bz_ BK208 2
   have hfz24_0:=blk_frozen BK208.out 0
   have hfz24_1:=blk_frozen BK208.out 1
   have hfz24_2:=blk_frozen BK208.out 2
   go_wp2_with (first | ((with_reducible refine gate_callee (f:=39) rfl ?_);refine goesL_ (some 34) rfl rfl Tryz.func39 (by kernel_rfl) rfl #[.int .i64 a0_0,.int .i64 4,.int .i64 17] rfl q22_ ?_;(with_reducible refine (impl_within.calls a0_0 4 17 true _ A20.out).mono ?_);rintro e w' ⟨rfl,⟨nd,rfl⟩⟩;refine ⟨_,rfl,?_⟩))
   go_ret
   exact ⟨q26_,q12_⟩
  replace c21:=Bool.eq_false_iff.mpr c21
  subst c21
  rewrite [if_neg (show ¬ (false = true) by decide)] at H
  obtain rfl:=Option.some.inj H
  have hcz25_0:wc.cell? ⟨gb208,0,none⟩ = some (.int .i64 a0_0):=bz_ BK208 0
  have hcz25_1:wc.cell? ⟨gb208,1,none⟩ = some (.int .i64 a0_1):=bz_ BK208 1
  have hcz25_2:wc.cell? ⟨gb208,2,none⟩ = some (.string a0_2):=bz_ BK208 2
  have hfz25_0:=blk_frozen BK208.out 0
  have hfz25_1:=blk_frozen BK208.out 1
  have hfz25_2:=blk_frozen BK208.out 2
  go_wp2_with (first | ((with_reducible refine gate_callee (f:=39) rfl ?_);refine goesL_ (some 34) rfl rfl Tryz.func39 (by kernel_rfl) rfl #[.int .i64 a0_0,.int .i64 4,.int .i64 17] rfl q22_ ?_;(with_reducible refine (impl_within.calls a0_0 4 17 false _ A20.out).mono ?_);rintro e w' ⟨rfl,⟨nd,rfl⟩⟩;refine ⟨_,rfl,?_⟩))
  go_ret
  exact ⟨q26_,q12_⟩
end Go.Proofs.YtabbdfchibjndaaGreatDoor.QFnExprTexts
