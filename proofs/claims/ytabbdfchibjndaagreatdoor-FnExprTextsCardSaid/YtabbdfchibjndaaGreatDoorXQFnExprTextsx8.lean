/- The machine's side of a law,written by a program of this session for this claim. -/
import Derived.Test.YtabbdfchibjndaaGreatDoorXQq
import Derived.Test.YtabbdfchibjndaaGreatDoorXQFnExprTextsx0
import Derived.Test.YtabbdfchibjndaaGreatDoorXQFnExprTextsx7
namespace Go.Proofs.YtabbdfchibjndaaGreatDoor.QFnExprTexts
open Go.Proofs.YtabbdfchibjndaaGreatDoor.Qq
open Go.RowKit Go.Proofs.YtabbdfchibjndaaGreatDoor.LibX Go.Proofs.YtabbdfchibjndaaGreatDoor.LibE Go.Proofs.YtabbdfchibjndaaGreatDoor.LibG Go.Proofs.YtabbdfchibjndaaGreatDoor.LibCv Go.Proofs.YtabbdfchibjndaaGreatDoorW.PrintWords Go.Proofs.YtabbdfchibjndaaGreatDoorW.PrintLast Go.Proofs.YtabbdfchibjndaaGreatDoorW.PrintMore
attribute [local go_sem] max2_int min2_int max_two min_two max_three min_three max_four min_four   -- for this text's walks alone
set_option maxHeartbeats 8000000
set_option maxRecDepth 100000
set_option linter.unusedVariables false
set_option linter.unusedSimpArgs false
mutual
def spec_NameOk.j0:Nat → ByteArray → Bool → Option (Bool)
 | 0,_,_ => none
 | k + 1,x0,x17 => if x17 = true then (some false) else (spec_NameOk.l0 k x0 0)
def spec_NameOk.l0:Nat → ByteArray → Int → Option (Bool)
 | 0,_,_ => none
 | k + 1,x0,x3 => if x3 < (x0.size:Int) then (if 0 ≤ x3 then ((spec_l1Letter.f (bt x0 x3)).bind fun t282 => (if t282 = true then (spec_NameOk.j2 k x0 x3 false) else (if (bt x0 x3) ≥ 48 then (spec_NameOk.j2 k x0 x3 (!(decide ((bt x0 x3) ≤ 57)))) else (spec_NameOk.j2 k x0 x3 (!false))))) else (none)) else (some true)
def spec_NameOk.j2:Nat → ByteArray → Int → Bool → Option (Bool)
 | 0,_,_,_ => none
 | k + 1,x0,x3,x41 => if x41 = true then (some false) else (spec_NameOk.l0 k x0 (wrap64 (x3 + 1)))
end
def spec_NameOk.f (k:Nat) (a0:ByteArray):Option (Bool):=if (a0.size:Int) < 1 then (spec_NameOk.j0 k a0 true) else (if (a0.size:Int) > 16 then (spec_NameOk.j0 k a0 true) else (if 0 < (a0.size:Int) then ((spec_l1Letter.f (bt a0 0)).bind fun t281 => (spec_NameOk.j0 k a0 (!t281))) else (none)))
theorem spec_NameOk.mono_l:∀ k,(∀ y0 y1,LeO (spec_NameOk.j0 k y0 y1) (spec_NameOk.j0 (k + 1) y0 y1)) ∧ (∀ y0 y1,LeO (spec_NameOk.l0 k y0 y1) (spec_NameOk.l0 (k + 1) y0 y1)) ∧ (∀ y0 y1 y2,LeO (spec_NameOk.j2 k y0 y1 y2) (spec_NameOk.j2 (k + 1) y0 y1 y2))
 | 0 => ⟨fun _ _ r h => by simp [spec_NameOk.j0] at h,fun _ _ r h => by simp [spec_NameOk.l0] at h,fun _ _ _ r h => by simp [spec_NameOk.j2] at h⟩
 | k + 1 => by
  obtain ⟨ih0,ih1,ih2⟩:=spec_NameOk.mono_l k
  refine ⟨?_,?_,?_⟩
  ·intro y0 y1
   unfold spec_NameOk.j0
   repeat' first
   | (with_reducible first | exact ih0 _ _ | exact ih1 _ _ | exact ih2 _ _ _ | exact LeO.refl _ | exact LeO.none _ | refine LeO.ite ?_ ?_ | refine LeO.bind ?_ (fun _ => ?_))
   | exact ih0 _ _
   | exact ih1 _ _
   | exact ih2 _ _ _
   | exact LeO.none _
   | refine LeO.ite ?_ ?_
   | refine LeO.bind ?_ (fun _ => ?_)
  ·intro y0 y1
   unfold spec_NameOk.l0
   repeat' first
   | (with_reducible first | exact ih0 _ _ | exact ih1 _ _ | exact ih2 _ _ _ | exact LeO.refl _ | exact LeO.none _ | refine LeO.ite ?_ ?_ | refine LeO.bind ?_ (fun _ => ?_))
   | exact ih0 _ _
   | exact ih1 _ _
   | exact ih2 _ _ _
   | exact LeO.none _
   | refine LeO.ite ?_ ?_
   | refine LeO.bind ?_ (fun _ => ?_)
  intro y0 y1 y2
  unfold spec_NameOk.j2
  repeat' first
  | (with_reducible first | exact ih0 _ _ | exact ih1 _ _ | exact ih2 _ _ _ | exact LeO.refl _ | exact LeO.none _ | refine LeO.ite ?_ ?_ | refine LeO.bind ?_ (fun _ => ?_))
  | exact ih0 _ _
  | exact ih1 _ _
  | exact ih2 _ _ _
  | exact LeO.none _
  | refine LeO.ite ?_ ?_
  | refine LeO.bind ?_ (fun _ => ?_)
theorem spec_NameOk.mono:∀ a0 k,LeO (spec_NameOk.f k a0) (spec_NameOk.f (k + 1) a0):=by
 intro a0 k
 obtain ⟨ih0,ih1,ih2⟩:=spec_NameOk.mono_l k
 unfold spec_NameOk.f
 repeat' first
   | (with_reducible first | exact ih0 _ _ | exact ih1 _ _ | exact ih2 _ _ _ | exact LeO.refl _ | exact LeO.none _ | refine LeO.ite ?_ ?_ | refine LeO.bind ?_ (fun _ => ?_))
   | exact ih0 _ _
   | exact ih1 _ _
   | exact ih2 _ _ _
   | exact LeO.none _
   | refine LeO.ite ?_ ?_
   | refine LeO.bind ?_ (fun _ => ?_)
theorem spec_NameOk.calls (k:Nat) (a0:ByteArray) (r:Bool) (w:World) (h:spec_NameOk.f k a0 = some r) :
  Calls Tryz.prog 41 #[.string a0] w fun e w' => e = .returned (.bool r) ∧ Drawn0 w w':=by
 have H:=h;unfold spec_NameOk.f at H
 clear h
 have HC2:=Aside0.mk H
 clear H
 go_enter Tryz.func41,Tryz.ntmps41
 go_upto_region 1 with (fail)
 go_cut [17] (fun v17 wc => ∃ (kq:Nat) (x17_1:Bool),v17 = .bool x17_1 ∧ Aside0 (spec_NameOk.j0 kq a0 x17_1 = some r) ∧ Aside0 (kq ≤ k) ∧ Drawn0 w wc)
 case first =>
  have H:=HC2.out
  clear HC2
  by_cases c3:(a0.size:Int) < 1
  ·rw [if_pos c3] at H
   have c3b0:=decide_eq_true c3
   have c3b1:decide (a0.size < 1) = true:=decide_eq_true (by omega)
   clear c3
   (first | rw [c3b0] | (simp only [i64_w,i32_w];rw [c3b0]) | rw [c3b9] | skip)
   have H':=Aside0.mk H
   clear H
   go_wp2
   go_meet
   case rel => exact ⟨_,(true),q31_,H',⟨q48_⟩,q44_⟩
  rw [if_neg c3] at H
  have c3b0:=decide_eq_false c3
  have c3b1:decide (a0.size < 1) = false:=decide_eq_false (by omega)
  clear c3
  (first | rw [c3b0] | (simp only [i64_w,i32_w];rw [c3b0]) | rw [c3b9] | skip)
  by_cases c4:(a0.size:Int) > 16
  ·rw [if_pos c4] at H
   have c4b0:decide (16 < (a0.size:Int)) = true:=decide_eq_true c4
   have c4b1:decide (16 < a0.size) = true:=decide_eq_true (by omega)
   clear c4
   have H':=Aside0.mk H
   clear H
   go_wp2
   go_meet
   case rel => exact ⟨_,(true),q31_,H',⟨q48_⟩,q44_⟩
  rw [if_neg c4] at H
  have c4b0:decide (16 < (a0.size:Int)) = false:=decide_eq_false c4
  have c4b1:decide (16 < a0.size) = false:=decide_eq_false (by omega)
  clear c4
  by_cases c5:0 < (a0.size:Int)
  rotate_left
  ·rw [if_neg c5] at H
   exact absurd H (by simp)
  rw [if_pos c5] at H
  have c5b0:=decide_eq_true c5
  have c5b1:decide (0 < a0.size) = true:=decide_eq_true (by omega)
  clear c5
  replace H:=Option.bind_eq_some_iff.mp H
  obtain ⟨t281,A70,H⟩:=H
  have A7:=Aside0.mk A70
  clear A70
  have H':=Aside0.mk H
  clear H
  have p6:0 ≤ (0:Int):=(by omega)
  have q6:0 < a0.size:=(by have:(0:Int) < (a0.size:Int):=of_decide_eq_true q46_;omega)
  have hx6:∀ h:0 < a0.size,((a0[0]'h).toNat:Int) = bt a0 0:=bt_at a0 0
  clear p6
  have qi6:(0 < (a0.size:Int)) = True:=eq_true (of_decide_eq_true q46_)
  replace q6:=eq_true q6
  go_wp2_with (first | (go_at_call 63;(with_reducible refine (spec_l1Letter.calls (bt a0 0) t281 _ A7.out).mono ?_);rintro e w' ⟨rfl,⟨nd,rfl⟩⟩))
  go_meet
  case rel => exact ⟨_,(!t281),q31_,H',⟨q48_⟩,q44_⟩
 clear HC2
 try clear p2
 try clear c3
 try clear c3b0
 try clear c3b1
 try clear c4
 try clear c4b0
 try clear c4b1
 try clear c5
 try clear c5b0
 try clear c5b1
 try clear p6 p6
 try clear q6 q6
 try clear hx6
 try clear qi6
 obtain ⟨kq,x17_1,rfl,HA,HJ1,⟨mc1,rfl⟩⟩:=hcut
 cases kq with
 | zero => exact absurd HA.out (by simp [spec_NameOk.j0])
 | succ kj1 =>
  have H:=HA.out
  clear HA
  simp only [spec_NameOk.j0] at H
  by_cases c8:x17_1 = true
  ·subst c8
   rewrite [if_pos rfl] at H
   obtain rfl:=Option.some.inj H
   go_wp2
   go_ret
   exact ⟨q31_,q44_⟩
  replace c8:=Bool.eq_false_iff.mpr c8
  subst c8
  rewrite [if_neg (show ¬ (false = true) by decide)] at H
  have H':=Aside0.mk H
  clear H
  go_wp2
  go_loopg [3] kj1 (fun kq v3 w' => ∃ (x3_2:Int),v3 = .int .i64 x3_2 ∧ Aside0 (spec_NameOk.l0 kq a0 x3_2 = some r) ∧ Aside0 (kq ≤ kj1) ∧ Drawn0 w w')
  case atStart => exact ⟨(0),q31_,H',⟨Nat.le_refl _⟩,q44_⟩
  clear H'
  try clear c1
  try clear p2 p2
  try clear c3
  try clear c3b0
  try clear c3b1
  try clear c4
  try clear c4b0
  try clear c4b1
  try clear c5
  try clear c5b0
  try clear c5b1
  try clear p6 p6
  try clear q6 q6
  try clear hx6
  try clear qi6
  try clear c8
  obtain ⟨x3_2,rfl,HA,HK2,⟨m2,rfl⟩⟩:=hrel
  cases gk with
  | zero => exact absurd HA.out (by simp [spec_NameOk.l0])
  | succ k2 =>
   have H:=HA.out
   clear HA
   simp only [spec_NameOk.l0] at H
   by_cases c9:x3_2 < (a0.size:Int)
   ·rw [if_pos c9] at H
    have c9b0:=decide_eq_true c9
    clear c9
    have HC10:=Aside0.mk H
    clear H
    go_upto_region 6 with (fail)
    go_cut [41] (fun v41 wc => ∃ (kq:Nat) (x41_9:Bool),v41 = .bool x41_9 ∧ Aside0 (spec_NameOk.j2 kq a0 x3_2 x41_9 = some r) ∧ Aside0 (kq ≤ k2) ∧ Drawn0 w wc)
    case first =>
     have H:=HC10.out
     clear HC10
     by_cases c11:0 ≤ x3_2
     rotate_left
     ·rw [if_neg c11] at H
      exact absurd H (by simp)
     rw [if_pos c11] at H
     have c11b0:=decide_eq_true c11
     clear c11
     (first | rw [c11b0] | (simp only [i64_w,i32_w];rw [c11b0]) | rw [c11b9] | skip)
     replace H:=Option.bind_eq_some_iff.mp H
     obtain ⟨t282,A130,H⟩:=H
     have A13:=Aside0.mk A130
     clear A130
     by_cases c14:t282 = true
     ·subst c14
      rewrite [if_pos rfl] at H
      have H':=Aside0.mk H
      clear H
      have p12:0 ≤ (x3_2:Int):=of_decide_eq_true q46_
      have q12:x3_2 < (a0.size:Int):=of_decide_eq_true q46_
      have hx12:=bt_at a0 x3_2
      replace p12:=eq_true p12
      replace q12:=eq_true q12
      go_wp2_with (first | ((with_reducible refine gate_callee (f:=63) rfl ?_);refine goesL_ (some 27) rfl rfl Tryz.func63 (by kernel_rfl) rfl #[.int .u8 (bt a0 x3_2)] rfl q22_ ?_;(with_reducible refine (spec_l1Letter.calls (bt a0 x3_2) true _ A13.out).mono ?_);rintro e w' ⟨rfl,⟨nd,rfl⟩⟩;refine ⟨_,rfl,?_⟩))
      go_meet
      case rel => exact ⟨_,(false),q31_,H',⟨q43_⟩,q44_⟩
     replace c14:=Bool.eq_false_iff.mpr c14
     subst c14
     rewrite [if_neg (show ¬ (false = true) by decide)] at H
     by_cases c16:(bt a0 x3_2) ≥ 48
     ·rw [if_pos c16] at H
      have c16b0:decide (48 ≤ (bt a0 x3_2)) = true:=decide_eq_true c16
      clear c16
      have H':=Aside0.mk H
      clear H
      have p12:0 ≤ (x3_2:Int):=of_decide_eq_true q46_
      have q12:x3_2 < (a0.size:Int):=of_decide_eq_true q46_
      have hx12:=bt_at a0 x3_2
      replace p12:=eq_true p12
      replace q12:=eq_true q12
      go_wp2_with (first | ((with_reducible refine gate_callee (f:=63) rfl ?_);refine goesL_ (some 27) rfl rfl Tryz.func63 (by kernel_rfl) rfl #[.int .u8 (bt a0 x3_2)] rfl q22_ ?_;(with_reducible refine (spec_l1Letter.calls (bt a0 x3_2) false _ A13.out).mono ?_);rintro e w' ⟨rfl,⟨nd,rfl⟩⟩;refine ⟨_,rfl,?_⟩;have p15:0 ≤ (x3_2:Int):=of_decide_eq_true q46_;have q15:x3_2 < (a0.size:Int):=of_decide_eq_true q46_;have hx15:=bt_at a0 x3_2;replace p15:=eq_true p15;replace q15:=eq_true q15;have p17:0 ≤ (x3_2:Int):=of_decide_eq_true q46_;have q17:x3_2 < (a0.size:Int):=of_decide_eq_true q46_;have hx17:=bt_at a0 x3_2;replace p17:=eq_true p17;replace q17:=eq_true q17))
      go_meet
      case rel => exact ⟨_,(!(decide ((bt a0 x3_2) ≤ 57))),q31_,H',⟨q43_⟩,q44_⟩
     rw [if_neg c16] at H
     have c16b0:decide (48 ≤ (bt a0 x3_2)) = false:=decide_eq_false c16
     clear c16
     have H':=Aside0.mk H
     clear H
     have p12:0 ≤ (x3_2:Int):=of_decide_eq_true q46_
     have q12:x3_2 < (a0.size:Int):=of_decide_eq_true q46_
     have hx12:=bt_at a0 x3_2
     replace p12:=eq_true p12
     replace q12:=eq_true q12
     go_wp2_with (first | ((with_reducible refine gate_callee (f:=63) rfl ?_);refine goesL_ (some 27) rfl rfl Tryz.func63 (by kernel_rfl) rfl #[.int .u8 (bt a0 x3_2)] rfl q22_ ?_;(with_reducible refine (spec_l1Letter.calls (bt a0 x3_2) false _ A13.out).mono ?_);rintro e w' ⟨rfl,⟨nd,rfl⟩⟩;refine ⟨_,rfl,?_⟩;have p15:0 ≤ (x3_2:Int):=of_decide_eq_true q46_;have q15:x3_2 < (a0.size:Int):=of_decide_eq_true q46_;have hx15:=bt_at a0 x3_2;replace p15:=eq_true p15;replace q15:=eq_true q15))
     go_meet
     case rel => exact ⟨_,(!false),q31_,H',⟨q43_⟩,q44_⟩
    clear HC10
    try clear c1
    try clear p1
    try clear q1
    try clear hx1
    try clear p2 p2
    try clear c3
    try clear c3b0
    try clear c3b1
    try clear c4
    try clear c4b0
    try clear c4b1
    try clear c5
    try clear c5b0
    try clear c5b1
    try clear c6
    try clear p6 p6
    try clear q6 q6
    try clear hx6
    try clear qi6
    try clear c8
    try clear c9
    try clear c9b0
    try clear c11
    try clear c11b0
    try clear p12 p12
    try clear q12 q12
    try clear hx12
    try clear c14
    try clear p15 p15
    try clear q15 q15
    try clear hx15
    try clear c16
    try clear c16b0
    try clear p17 p17
    try clear q17 q17
    try clear hx17
    obtain ⟨kq,x41_9,rfl,HA,HJ9,⟨mc9,rfl⟩⟩:=hcut
    cases kq with
    | zero => exact absurd HA.out (by simp [spec_NameOk.j2])
    | succ kj9 =>
     have H:=HA.out
     clear HA
     simp only [spec_NameOk.j2] at H
     by_cases c18:x41_9 = true
     ·subst c18
      rewrite [if_pos rfl] at H
      obtain rfl:=Option.some.inj H
      go_wp2
      go_ret
      exact ⟨q31_,q44_⟩
     replace c18:=Bool.eq_false_iff.mpr c18
     subst c18
     rewrite [if_neg (show ¬ (false = true) by decide)] at H
     have H':=Aside0.mk H
     clear H
     go_wp2
     go_roundg kj9
     case measure => have:=HJ1.out;have:=HK2.out;have:=HJ9.out;omega
     case rel => exact ⟨(wrap64 (x3_2 + 1)),q31_,H',⟨by have:=HJ1.out;have:=HK2.out;have:=HJ9.out;omega⟩,q44_⟩
   rw [if_neg c9] at H
   have c9b0:=decide_eq_false c9
   clear c9
   obtain rfl:=Option.some.inj H
   go_wp2
   go_ret
   exact ⟨q31_,q44_⟩
def spec_l2Node.j0:Nat → Bool → Int → Int → ByteArray → Option (Bool)
 | 0,_,_,_,_ => none
 | k + 1,x15,x284000,x284001,x284002 => if x15 = true then (if x284001 = 0 then ((spec_NameOk.f k x284002).bind fun t285 => (some t285)) else (some false)) else (if x284001 = 0 then (if x284002.toList = ([]:List UInt8) then ((spec_l2Takes.f x284000).bind fun t286 => (some (decide (t286 > 0)))) else (some false)) else (some false))
def spec_l2Node.f (k:Nat) (a0_0:Int) (a0_1:Int) (a0_2:ByteArray):Option (Bool):=if a0_0 = 1 then ((spec_l1In.f a0_1 0 65535).bind fun t284 => (if t284 = true then (some (a0_2.toList == ([]:List UInt8))) else (some false))) else (if a0_0 = 2 then (spec_l2Node.j0 k (a0_0 == 2) a0_0 a0_1 a0_2) else (spec_l2Node.j0 k (a0_0 == 3) a0_0 a0_1 a0_2))
theorem spec_l2Node.mono_l:∀ k,(∀ y0 y1 y2 y3,LeO (spec_l2Node.j0 k y0 y1 y2 y3) (spec_l2Node.j0 (k + 1) y0 y1 y2 y3))
 | 0 => fun _ _ _ _ r h => by simp [spec_l2Node.j0] at h
 | k + 1 => by
  have ih0:=spec_l2Node.mono_l k
  intro y0 y1 y2 y3
  unfold spec_l2Node.j0
  repeat' first
  | (with_reducible first | exact ih0 _ _ _ _ | exact spec_NameOk.mono _ _ | exact LeO.refl _ | exact LeO.none _ | refine LeO.ite ?_ ?_ | refine LeO.bind ?_ (fun _ => ?_))
  | exact ih0 _ _ _ _
  | exact spec_NameOk.mono _ _
  | exact LeO.none _
  | refine LeO.ite ?_ ?_
  | refine LeO.bind ?_ (fun _ => ?_)
theorem spec_l2Node.mono:∀ a0 a1 a2 k,LeO (spec_l2Node.f k a0 a1 a2) (spec_l2Node.f (k + 1) a0 a1 a2):=by
 intro a0 a1 a2 k
 have ih0:=spec_l2Node.mono_l k
 unfold spec_l2Node.f
 repeat' first
   | (with_reducible first | exact ih0 _ _ _ _ | exact spec_NameOk.mono _ _ | exact LeO.refl _ | exact LeO.none _ | refine LeO.ite ?_ ?_ | refine LeO.bind ?_ (fun _ => ?_))
   | exact ih0 _ _ _ _
   | exact spec_NameOk.mono _ _
   | exact LeO.none _
   | refine LeO.ite ?_ ?_
   | refine LeO.bind ?_ (fun _ => ?_)
theorem spec_l2Node.calls (k:Nat) (a0_0:Int) (a0_1:Int) (a0_2:ByteArray) (r:Bool) (w:World) (h:spec_l2Node.f k a0_0 a0_1 a0_2 = some r) :
  Calls Tryz.prog 24 #[.agg #[.int .i64 a0_0,.int .i64 a0_1,.string a0_2]] w fun e w' => e = .returned (.bool r) ∧ Below w.heap.size w w':=by
 have hu43:=Tryz.underlying43
 have HB:=Aside0.mk (Below.refl w.heap.size w)
 have H:=h;unfold spec_l2Node.f at H
 clear h
 by_cases c2:a0_0 = 1
 ·rw [if_pos c2] at H
  have c2b0:(a0_0 == 1) = true:=beq_iff_eq.mpr c2
  have c2b1:(a0_0 != 1) = false:=bne_eq_false_iff_eq.mpr c2
  clear c2
  replace H:=Option.bind_eq_some_iff.mp H
  obtain ⟨t284,A30,H⟩:=H
  have A3:=Aside0.mk A30
  clear A30
  by_cases c4:t284 = true
  ·subst c4
   rewrite [if_pos rfl] at H
   obtain rfl:=Option.some.inj H
   go_enter Tryz.func24,Tryz.ntmps24
   go_wp2_with (first | ((with_reducible refine gate_dst (N:=1) rfl ?_);refine box_event ?hg (N:=1) ?hd (cs:=#[.int .i64 a0_0,.int .i64 a0_1,.string a0_2]) (t:=43) ?hr ?_;(case hd => rfl);(case hg => rfl);(case hr => exact q59_);intro gb283 hg w5 hbox hb;have n0_:=Aside0.mk (below_step q24_ hb);have n1_:=Aside0.mk (hbox);have n2_:=Aside0.mk ((q11_:w.heap.size ≤ gb283));have n3_:=Aside0.mk ((q11_:w.heap.size ≤ gb283));clear HB;have HB:=n0_;have BK283:=n1_;have GW283:=n2_;have GE283:=n3_;clear n0_ n1_ n2_ n3_;clear hb hbox hg;have hcz6_0:w5.cell? ⟨gb283,0,none⟩ = some (.int .i64 a0_0):=(blk_cell BK283.out 0).trans rfl;have hcz6_1:w5.cell? ⟨gb283,1,none⟩ = some (.int .i64 a0_1):=(blk_cell BK283.out 1).trans rfl;have hcz6_2:w5.cell? ⟨gb283,2,none⟩ = some (.string a0_2):=(blk_cell BK283.out 2).trans rfl;have hfz6_0:=blk_frozen BK283.out 0;have hfz6_1:=blk_frozen BK283.out 1;have hfz6_2:=blk_frozen BK283.out 2) | ((with_reducible refine gate_callee (f:=40) rfl ?_);refine goesL_ (some 9) rfl rfl Tryz.func40 (by kernel_rfl) rfl #[.int .i64 a0_1,.int .i64 0,.int .i64 65535] rfl q22_ ?_;(with_reducible refine (spec_l1In.calls a0_1 0 65535 true _ A3.out).mono ?_);rintro e w' ⟨rfl,⟨nd,rfl⟩⟩;refine ⟨_,rfl,?_⟩))
   go_ret
   exact ⟨q26_,q15_⟩
  replace c4:=Bool.eq_false_iff.mpr c4
  subst c4
  rewrite [if_neg (show ¬ (false = true) by decide)] at H
  obtain rfl:=Option.some.inj H
  go_enter Tryz.func24,Tryz.ntmps24
  go_wp2_with (first | ((with_reducible refine gate_dst (N:=1) rfl ?_);refine box_event ?hg (N:=1) ?hd (cs:=#[.int .i64 a0_0,.int .i64 a0_1,.string a0_2]) (t:=43) ?hr ?_;(case hd => rfl);(case hg => rfl);(case hr => exact q59_);intro gb283 hg w7 hbox hb;have n0_:=Aside0.mk (below_step q24_ hb);have n1_:=Aside0.mk (hbox);have n2_:=Aside0.mk ((q11_:w.heap.size ≤ gb283));have n3_:=Aside0.mk ((q11_:w.heap.size ≤ gb283));clear HB;have HB:=n0_;have BK283:=n1_;have GW283:=n2_;have GE283:=n3_;clear n0_ n1_ n2_ n3_;clear hb hbox hg;have hcz8_0:w7.cell? ⟨gb283,0,none⟩ = some (.int .i64 a0_0):=(blk_cell BK283.out 0).trans rfl;have hcz8_1:w7.cell? ⟨gb283,1,none⟩ = some (.int .i64 a0_1):=(blk_cell BK283.out 1).trans rfl;have hcz8_2:w7.cell? ⟨gb283,2,none⟩ = some (.string a0_2):=(blk_cell BK283.out 2).trans rfl;have hfz8_0:=blk_frozen BK283.out 0;have hfz8_1:=blk_frozen BK283.out 1;have hfz8_2:=blk_frozen BK283.out 2) | ((with_reducible refine gate_callee (f:=40) rfl ?_);refine goesL_ (some 9) rfl rfl Tryz.func40 (by kernel_rfl) rfl #[.int .i64 a0_1,.int .i64 0,.int .i64 65535] rfl q22_ ?_;(with_reducible refine (spec_l1In.calls a0_1 0 65535 false _ A3.out).mono ?_);rintro e w' ⟨rfl,⟨nd,rfl⟩⟩;refine ⟨_,rfl,?_⟩))
  go_ret
  exact ⟨q26_,q15_⟩
 rw [if_neg c2] at H
 have c2b0:(a0_0 == 1) = false:=beq_eq_false_iff_ne.mpr c2
 have c2b1:(a0_0 != 1) = true:=bne_iff_ne.mpr c2
 have HC9:=Aside0.mk H
 clear H
 go_enter Tryz.func24,Tryz.ntmps24
 go_upto_if 15 with (first | ((with_reducible refine gate_dst (N:=1) rfl ?_);refine box_event ?hg (N:=1) ?hd (cs:=#[.int .i64 a0_0,.int .i64 a0_1,.string a0_2]) (t:=43) ?hr ?_;(case hd => rfl);(case hg => rfl);(case hr => exact q59_);intro gb283 hg w10 hbox hb;have n0_:=Aside0.mk (below_step q24_ hb);have n1_:=Aside0.mk (hbox);have n2_:=Aside0.mk ((q11_:w.heap.size ≤ gb283));have n3_:=Aside0.mk ((q11_:w.heap.size ≤ gb283));clear HB;have HB:=n0_;have BK283:=n1_;have GW283:=n2_;have GE283:=n3_;clear n0_ n1_ n2_ n3_;clear hb hbox hg;have hcz11_0:w10.cell? ⟨gb283,0,none⟩ = some (.int .i64 a0_0):=(blk_cell BK283.out 0).trans rfl;have hcz11_1:w10.cell? ⟨gb283,1,none⟩ = some (.int .i64 a0_1):=(blk_cell BK283.out 1).trans rfl;have hcz11_2:w10.cell? ⟨gb283,2,none⟩ = some (.string a0_2):=(blk_cell BK283.out 2).trans rfl;have hfz11_0:=blk_frozen BK283.out 0;have hfz11_1:=blk_frozen BK283.out 1;have hfz11_2:=blk_frozen BK283.out 2))
 (try simp only [Act.put,List.setIfInBounds_toArray,List.set_cons_zero,List.set_cons_succ])
 go_cut [15] (fun v15 wc => ∃ (kq:Nat) (x15_8:Bool),v15 = .bool x15_8 ∧ Aside0 (spec_l2Node.j0 kq x15_8 a0_0 a0_1 a0_2 = some r) ∧ Aside0 (kq ≤ k) ∧ Aside0 (wc.heap[gb283]? = some (.cells #[.int .i64 a0_0,.int .i64 a0_1,.string a0_2] 43 (0,0))) ∧ Aside0 (Below w.heap.size w wc))
 case first =>
  have H:=HC9.out
  clear HC9
  by_cases c12:a0_0 = 2
  ·rw [if_pos c12] at H
   have c12b0:(a0_0 == 2) = true:=beq_iff_eq.mpr c12
   have c12b1:(a0_0 != 2) = false:=bne_eq_false_iff_eq.mpr c12
   clear c12
   (first | rw [c12b0] | (simp only [i64_w,i32_w];rw [c12b0]) | rw [c12b9] | skip)
   have H':=Aside0.mk H
   clear H
   go_wp2
   go_meet
   case rel => exact ⟨_,((a0_0 == 2)),q31_,H',⟨q48_⟩,⟨q29_⟩,⟨q15_⟩⟩
  rw [if_neg c12] at H
  have c12b0:(a0_0 == 2) = false:=beq_eq_false_iff_ne.mpr c12
  have c12b1:(a0_0 != 2) = true:=bne_iff_ne.mpr c12
  (first | rw [c12b0] | (simp only [i64_w,i32_w];rw [c12b0]) | rw [c12b9] | skip)
  have H':=Aside0.mk H
  clear H
  go_wp2
  go_meet
  case rel => exact ⟨_,((a0_0 == 3)),q31_,H',⟨q48_⟩,⟨q29_⟩,⟨q15_⟩⟩
 clear HC9
 try clear c1
 try clear c2
 try clear c2b0
 try clear c2b1
 try clear p2
 try clear c4
 try clear p6
 try clear c12
 try clear c12b0
 try clear c12b1
 try clear hcz11_0 hcz11_1 hcz11_2
 try clear hcz6_0 hcz6_1 hcz6_2
 try clear hcz8_0 hcz8_1 hcz8_2
 try clear hfz11_0 hfz11_1 hfz11_2
 try clear hfz6_0 hfz6_1 hfz6_2
 try clear hfz8_0 hfz8_1 hfz8_2
 obtain ⟨kq,x15_8,rfl,HA,HJ8,BK283,HB⟩:=hcut
 cases kq with
 | zero => exact absurd HA.out (by simp [spec_l2Node.j0])
 | succ kj8 =>
  have H:=HA.out
  clear HA
  simp only [spec_l2Node.j0] at H
  by_cases c13:x15_8 = true
  ·subst c13
   rewrite [if_pos rfl] at H
   by_cases c14:a0_1 = 0
   ·rw [if_pos c14] at H
    have c14b0:(a0_1 == 0) = true:=beq_iff_eq.mpr c14
    have c14b1:(a0_1 != 0) = false:=bne_eq_false_iff_eq.mpr c14
    clear c14
    replace H:=Option.bind_eq_some_iff.mp H
    obtain ⟨t285,A150,H⟩:=H
    have A15:=Aside0.mk A150
    clear A150
    obtain rfl:=Option.some.inj H
    have hcz16_0:wc.cell? ⟨gb283,0,none⟩ = some (.int .i64 a0_0):=bz_ BK283 0
    have hcz16_1:wc.cell? ⟨gb283,1,none⟩ = some (.int .i64 a0_1):=bz_ BK283 1
    have hcz16_2:wc.cell? ⟨gb283,2,none⟩ = some (.string a0_2):=bz_ BK283 2
    have hfz16_0:=blk_frozen BK283.out 0
    have hfz16_1:=blk_frozen BK283.out 1
    have hfz16_2:=blk_frozen BK283.out 2
    go_wp2_with (first | (go_at_call 41;(with_reducible refine (spec_NameOk.calls kj8 a0_2 t285 _ A15.out).mono ?_);rintro e w' ⟨rfl,⟨nd,rfl⟩⟩))
    go_ret
    exact ⟨q26_,q15_⟩
   rw [if_neg c14] at H
   have c14b0:(a0_1 == 0) = false:=beq_eq_false_iff_ne.mpr c14
   have c14b1:(a0_1 != 0) = true:=bne_iff_ne.mpr c14
   obtain rfl:=Option.some.inj H
   have hcz17_0:wc.cell? ⟨gb283,0,none⟩ = some (.int .i64 a0_0):=bz_ BK283 0
   have hcz17_1:wc.cell? ⟨gb283,1,none⟩ = some (.int .i64 a0_1):=bz_ BK283 1
   have hcz17_2:wc.cell? ⟨gb283,2,none⟩ = some (.string a0_2):=bz_ BK283 2
   have hfz17_0:=blk_frozen BK283.out 0
   have hfz17_1:=blk_frozen BK283.out 1
   have hfz17_2:=blk_frozen BK283.out 2
   go_wp2
   go_ret
   exact ⟨q26_,q15_⟩
  replace c13:=Bool.eq_false_iff.mpr c13
  subst c13
  rewrite [if_neg (show ¬ (false = true) by decide)] at H
  by_cases c18:a0_1 = 0
  ·rw [if_pos c18] at H
   have c18b0:(a0_1 == 0) = true:=beq_iff_eq.mpr c18
   have c18b1:(a0_1 != 0) = false:=bne_eq_false_iff_eq.mpr c18
   clear c18
   by_cases c19:a0_2.toList = ([]:List UInt8)
   ·rw [if_pos c19] at H
    have c19b0:(a0_2.toList == ([]:List UInt8)) = true:=beq_iff_eq.mpr c19
    have c19b1:(a0_2.toList != ([]:List UInt8)) = false:=bne_eq_false_iff_eq.mpr c19
    have c19b9:a0_2.toList.isEmpty = true:=(isEmpty_beq _).trans c19b0
    clear c19
    replace H:=Option.bind_eq_some_iff.mp H
    obtain ⟨t286,A200,H⟩:=H
    have A20:=Aside0.mk A200
    clear A200
    obtain rfl:=Option.some.inj H
    have hcz21_0:wc.cell? ⟨gb283,0,none⟩ = some (.int .i64 a0_0):=bz_ BK283 0
    have hcz21_1:wc.cell? ⟨gb283,1,none⟩ = some (.int .i64 a0_1):=bz_ BK283 1
    have hcz21_2:wc.cell? ⟨gb283,2,none⟩ = some (.string a0_2):=bz_ BK283 2
    have hfz21_0:=blk_frozen BK283.out 0
    have hfz21_1:=blk_frozen BK283.out 1
    have hfz21_2:=blk_frozen BK283.out 2
    go_wp2_with (first | (go_at_call 25;(with_reducible refine (spec_l2Takes.calls a0_0 t286 _ A20.out).mono ?_);rintro e w' ⟨rfl,⟨nd,rfl⟩⟩))
    go_ret
    exact ⟨q26_,q15_⟩
   rw [if_neg c19] at H
   have c19b0:(a0_2.toList == ([]:List UInt8)) = false:=beq_eq_false_iff_ne.mpr c19
   have c19b1:(a0_2.toList != ([]:List UInt8)) = true:=bne_iff_ne.mpr c19
   have c19b9:a0_2.toList.isEmpty = false:=(isEmpty_beq _).trans c19b0
   obtain rfl:=Option.some.inj H
   have hcz22_0:wc.cell? ⟨gb283,0,none⟩ = some (.int .i64 a0_0):=bz_ BK283 0
   have hcz22_1:wc.cell? ⟨gb283,1,none⟩ = some (.int .i64 a0_1):=bz_ BK283 1
   have hcz22_2:wc.cell? ⟨gb283,2,none⟩ = some (.string a0_2):=bz_ BK283 2
   have hfz22_0:=blk_frozen BK283.out 0
   have hfz22_1:=blk_frozen BK283.out 1
   have hfz22_2:=blk_frozen BK283.out 2
   go_wp2
   go_ret
   exact ⟨q26_,q15_⟩
  rw [if_neg c18] at H
  have c18b0:(a0_1 == 0) = false:=beq_eq_false_iff_ne.mpr c18
  have c18b1:(a0_1 != 0) = true:=bne_iff_ne.mpr c18
  obtain rfl:=Option.some.inj H
  have hcz23_0:wc.cell? ⟨gb283,0,none⟩ = some (.int .i64 a0_0):=bz_ BK283 0
  have hcz23_1:wc.cell? ⟨gb283,1,none⟩ = some (.int .i64 a0_1):=bz_ BK283 1
  have hcz23_2:wc.cell? ⟨gb283,2,none⟩ = some (.string a0_2):=bz_ BK283 2
  have hfz23_0:=blk_frozen BK283.out 0
  have hfz23_1:=blk_frozen BK283.out 1
  have hfz23_2:=blk_frozen BK283.out 2
  go_wp2
  go_ret
  exact ⟨q26_,q15_⟩
def spec_ExprOk.l0:Nat → List (S43) → Int → Int → Option (Bool)
 | 0,_,_,_ => none
 | k + 1,x0,x3,x4 => if x4 < (x0.length:Int) then (if 0 ≤ x4 then ((spec_l2Node.f k ((rd_T43 x0 x4).f0) ((rd_T43 x0 x4).f1) ((rd_T43 x0 x4).f2)).bind fun t288 => (if t288 = true then ((spec_l2Takes.f ((rd_T43 x0 x4).f0)).bind fun t290 => (if t290 > x3 then (some false) else ((spec_l2Takes.f ((rd_T43 x0 x4).f0)).bind fun t292 => (spec_ExprOk.l0 k x0 (wrap64 ((wrap64 (x3 - t292)) + 1)) (wrap64 (x4 + 1)))))) else (some false))) else (none)) else (if (x0.length:Int) ≤ 30 then (some (x3 == 1)) else (some false))
def spec_ExprOk.f (k:Nat) (l0:List (S43)):Option (Bool):=spec_ExprOk.l0 k l0 0 0
theorem spec_ExprOk.mono_l:∀ k,(∀ y0 y1 y2,LeO (spec_ExprOk.l0 k y0 y1 y2) (spec_ExprOk.l0 (k + 1) y0 y1 y2))
 | 0 => fun _ _ _ r h => by simp [spec_ExprOk.l0] at h
 | k + 1 => by
  have ih0:=spec_ExprOk.mono_l k
  intro y0 y1 y2
  unfold spec_ExprOk.l0
  repeat' first
  | (with_reducible first | exact ih0 _ _ _ | exact spec_l2Node.mono _ _ _ _ | exact LeO.refl _ | exact LeO.none _ | refine LeO.ite ?_ ?_ | refine LeO.bind ?_ (fun _ => ?_))
  | exact ih0 _ _ _
  | exact spec_l2Node.mono _ _ _ _
  | exact LeO.none _
  | refine LeO.ite ?_ ?_
  | refine LeO.bind ?_ (fun _ => ?_)
theorem spec_ExprOk.mono:∀ a0 k,LeO (spec_ExprOk.f k a0) (spec_ExprOk.f (k + 1) a0):=by
 intro a0 k
 have ih0:=spec_ExprOk.mono_l k
 unfold spec_ExprOk.f
 repeat' first
   | (with_reducible first | exact ih0 _ _ _ | exact spec_l2Node.mono _ _ _ _ | exact LeO.refl _ | exact LeO.none _ | refine LeO.ite ?_ ?_ | refine LeO.bind ?_ (fun _ => ?_))
   | exact ih0 _ _ _
   | exact spec_l2Node.mono _ _ _ _
   | exact LeO.none _
   | refine LeO.ite ?_ ?_
   | refine LeO.bind ?_ (fun _ => ?_)
theorem spec_ExprOk.calls (k:Nat) (A0:Option Addr) (c0:Nat) (l0:List (S43)) (r:Bool) (w:World) (hr0:Kd.C k43 w A0 l0.length l0) (hc0:l0.length ≤ c0) (h:spec_ExprOk.f k l0 = some r) :
  Calls Tryz.prog 10 #[.slice A0 l0.length c0] w fun e w' => e = .returned (.bool r) ∧ Below w.heap.size w w':=by
 have hu43:=Tryz.underlying43
 have HR0:=Aside0.mk hr0
 have HC0:=Aside0.mk hc0
 clear hr0 hc0
 have HB:=Aside0.mk (Below.refl w.heap.size w)
 have H:(spec_ExprOk.l0 k l0 0 0) = some r:=h
 clear h
 have H':=Aside0.mk H
 clear H
 go_enter Tryz.func10,Tryz.ntmps10
 go_wp2
 go_loopg [3,4] k (fun kq v3 v4 w' => ∃ (x3_1:Int) (x4_1:Int),v3 = .int .i64 x3_1 ∧ v4 = .int .i64 x4_1 ∧ Aside0 (spec_ExprOk.l0 kq l0 x3_1 x4_1 = some r) ∧ Aside0 (kq ≤ k) ∧ Aside0 (Below w.heap.size w w'))
 case atStart => exact ⟨(0),(0),q31_,q31_,H',⟨Nat.le_refl _⟩,⟨q24_⟩⟩
 clear H'
 try clear c1
 obtain ⟨x3_1,x4_1,rfl,rfl,HA,HK1,HB⟩:=hrel
 cases gk with
 | zero => exact absurd HA.out (by simp [spec_ExprOk.l0])
 | succ k1 =>
  have H:=HA.out
  clear HA
  simp only [spec_ExprOk.l0] at H
  by_cases c2:x4_1 < (l0.length:Int)
  ·rw [if_pos c2] at H
   have c2b0:=decide_eq_true c2
   clear c2
   by_cases c3:0 ≤ x4_1
   rotate_left
   ·rw [if_neg c3] at H
    exact absurd H (by simp)
   rw [if_pos c3] at H
   have c3b0:=decide_eq_true c3
   clear c3
   replace H:=Option.bind_eq_some_iff.mp H
   obtain ⟨t288,A40,H⟩:=H
   have A4:=Aside0.mk A40
   clear A40
   by_cases c5:t288 = true
   ·subst c5
    rewrite [if_pos rfl] at H
    replace H:=Option.bind_eq_some_iff.mp H
    obtain ⟨t290,A60,H⟩:=H
    have A6:=Aside0.mk A60
    clear A60
    by_cases c7:t290 > x3_1
    ·rw [if_pos c7] at H
     have c7b0:decide (x3_1 < t290) = true:=decide_eq_true c7
     clear c7
     obtain rfl:=Option.some.inj H
     have p287:0 ≤ (x4_1:Int):=of_decide_eq_true q46_
     have q287:x4_1 < (l0.length:Int):=of_decide_eq_true q46_
     obtain ⟨ad287,e287,hx287_0,hx287_1,hx287_2⟩:=at_T43 HR0.out x4_1 p287 q287
     cases e287
     replace hx287_0:=(HB.out.cell (World.block_lt_of_cell? w _ hx287_0)).trans hx287_0
     replace hx287_1:=(HB.out.cell (World.block_lt_of_cell? w _ hx287_1)).trans hx287_1
     replace hx287_2:=(HB.out.cell (World.block_lt_of_cell? w _ hx287_2)).trans hx287_2
     replace p287:=eq_true p287
     replace q287:=eq_true q287
     go_wp2_with (first | ((with_reducible refine gate_callee (f:=24) rfl ?_);refine goesL_ (some 15) rfl rfl Tryz.func24 (by kernel_rfl) rfl #[.agg #[.int .i64 ((rd_T43 l0 x4_1).f0),.int .i64 ((rd_T43 l0 x4_1).f1),.string ((rd_T43 l0 x4_1).f2)]] rfl q22_ ?_;(with_reducible refine (spec_l2Node.calls k1 ((rd_T43 l0 x4_1).f0) ((rd_T43 l0 x4_1).f1) ((rd_T43 l0 x4_1).f2) true _ A4.out).mono ?_);rintro e w8 ⟨rfl,hb⟩;refine ⟨_,rfl,?_⟩;replace HB:=Aside0.mk (below_step q24_ hb);(try clear hb);have p289:0 ≤ (x4_1:Int):=of_decide_eq_true q46_;have q289:x4_1 < (l0.length:Int):=of_decide_eq_true q46_;obtain ⟨ad289,e289,hx289_0,hx289_1,hx289_2⟩:=at_T43 HR0.out x4_1 p289 q289;obtain rfl:ad287 = ad289:=(by injection e289);replace hx289_0:=(HB.out.cell (World.block_lt_of_cell? w _ hx289_0)).trans hx289_0;replace hx289_1:=(HB.out.cell (World.block_lt_of_cell? w _ hx289_1)).trans hx289_1;replace hx289_2:=(HB.out.cell (World.block_lt_of_cell? w _ hx289_2)).trans hx289_2;replace p289:=eq_true p289;replace q289:=eq_true q289) | (go_at_call 25;(with_reducible refine (spec_l2Takes.calls ((rd_T43 l0 x4_1).f0) t290 _ A6.out).mono ?_);rintro e w' ⟨rfl,⟨nd,rfl⟩⟩))
     go_ret
     exact ⟨q26_,q24_⟩
    rw [if_neg c7] at H
    have c7b0:decide (x3_1 < t290) = false:=decide_eq_false c7
    clear c7
    replace H:=Option.bind_eq_some_iff.mp H
    obtain ⟨t292,A90,H⟩:=H
    have A9:=Aside0.mk A90
    clear A90
    have H':=Aside0.mk H
    clear H
    have p287:0 ≤ (x4_1:Int):=of_decide_eq_true q46_
    have q287:x4_1 < (l0.length:Int):=of_decide_eq_true q46_
    obtain ⟨ad287,e287,hx287_0,hx287_1,hx287_2⟩:=at_T43 HR0.out x4_1 p287 q287
    cases e287
    replace hx287_0:=(HB.out.cell (World.block_lt_of_cell? w _ hx287_0)).trans hx287_0
    replace hx287_1:=(HB.out.cell (World.block_lt_of_cell? w _ hx287_1)).trans hx287_1
    replace hx287_2:=(HB.out.cell (World.block_lt_of_cell? w _ hx287_2)).trans hx287_2
    replace p287:=eq_true p287
    replace q287:=eq_true q287
    go_wp2_with (first | ((with_reducible refine gate_callee (f:=24) rfl ?_);refine goesL_ (some 15) rfl rfl Tryz.func24 (by kernel_rfl) rfl #[.agg #[.int .i64 ((rd_T43 l0 x4_1).f0),.int .i64 ((rd_T43 l0 x4_1).f1),.string ((rd_T43 l0 x4_1).f2)]] rfl q22_ ?_;(with_reducible refine (spec_l2Node.calls k1 ((rd_T43 l0 x4_1).f0) ((rd_T43 l0 x4_1).f1) ((rd_T43 l0 x4_1).f2) true _ A4.out).mono ?_);rintro e w10 ⟨rfl,hb⟩;refine ⟨_,rfl,?_⟩;replace HB:=Aside0.mk (below_step q24_ hb);(try clear hb);have p289:0 ≤ (x4_1:Int):=of_decide_eq_true q46_;have q289:x4_1 < (l0.length:Int):=of_decide_eq_true q46_;obtain ⟨ad289,e289,hx289_0,hx289_1,hx289_2⟩:=at_T43 HR0.out x4_1 p289 q289;obtain rfl:ad287 = ad289:=(by injection e289);replace hx289_0:=(HB.out.cell (World.block_lt_of_cell? w _ hx289_0)).trans hx289_0;replace hx289_1:=(HB.out.cell (World.block_lt_of_cell? w _ hx289_1)).trans hx289_1;replace hx289_2:=(HB.out.cell (World.block_lt_of_cell? w _ hx289_2)).trans hx289_2;replace p289:=eq_true p289;replace q289:=eq_true q289) | (go_at_call 25;(with_reducible refine (spec_l2Takes.calls ((rd_T43 l0 x4_1).f0) t290 _ A6.out).mono ?_);rintro e w' ⟨rfl,⟨nd,rfl⟩⟩;have p291:0 ≤ (x4_1:Int):=of_decide_eq_true q46_;have q291:x4_1 < (l0.length:Int):=of_decide_eq_true q46_;obtain ⟨ad291,e291,hx291_0,hx291_1,hx291_2⟩:=at_T43 HR0.out x4_1 p291 q291;obtain rfl:ad287 = ad291:=(by injection e291);replace hx291_0:=(HB.out.cell (World.block_lt_of_cell? w _ hx291_0)).trans hx291_0;replace hx291_1:=(HB.out.cell (World.block_lt_of_cell? w _ hx291_1)).trans hx291_1;replace hx291_2:=(HB.out.cell (World.block_lt_of_cell? w _ hx291_2)).trans hx291_2;replace p291:=eq_true p291;replace q291:=eq_true q291) | ((with_reducible refine gate_callee (f:=25) rfl ?_);refine goesL_ (some 33) rfl rfl Tryz.func25 (by kernel_rfl) rfl #[.int .i64 ((rd_T43 l0 x4_1).f0)] rfl q22_ ?_;(with_reducible refine (spec_l2Takes.calls ((rd_T43 l0 x4_1).f0) t292 _ A9.out).mono ?_);rintro e w' ⟨rfl,⟨nd,rfl⟩⟩;refine ⟨_,rfl,?_⟩))
    go_roundg k1
    case measure => have:=HK1.out;omega
    case rel => exact ⟨(wrap64 ((wrap64 (x3_1 - t292)) + 1)),(wrap64 (x4_1 + 1)),q31_,q31_,H',⟨by have:=HK1.out;omega⟩,⟨q24_⟩⟩
   replace c5:=Bool.eq_false_iff.mpr c5
   subst c5
   rewrite [if_neg (show ¬ (false = true) by decide)] at H
   obtain rfl:=Option.some.inj H
   have p287:0 ≤ (x4_1:Int):=of_decide_eq_true q46_
   have q287:x4_1 < (l0.length:Int):=of_decide_eq_true q46_
   obtain ⟨ad287,e287,hx287_0,hx287_1,hx287_2⟩:=at_T43 HR0.out x4_1 p287 q287
   cases e287
   replace hx287_0:=(HB.out.cell (World.block_lt_of_cell? w _ hx287_0)).trans hx287_0
   replace hx287_1:=(HB.out.cell (World.block_lt_of_cell? w _ hx287_1)).trans hx287_1
   replace hx287_2:=(HB.out.cell (World.block_lt_of_cell? w _ hx287_2)).trans hx287_2
   replace p287:=eq_true p287
   replace q287:=eq_true q287
   go_wp2_with (first | ((with_reducible refine gate_callee (f:=24) rfl ?_);refine goesL_ (some 15) rfl rfl Tryz.func24 (by kernel_rfl) rfl #[.agg #[.int .i64 ((rd_T43 l0 x4_1).f0),.int .i64 ((rd_T43 l0 x4_1).f1),.string ((rd_T43 l0 x4_1).f2)]] rfl q22_ ?_;(with_reducible refine (spec_l2Node.calls k1 ((rd_T43 l0 x4_1).f0) ((rd_T43 l0 x4_1).f1) ((rd_T43 l0 x4_1).f2) false _ A4.out).mono ?_);rintro e w11 ⟨rfl,hb⟩;refine ⟨_,rfl,?_⟩;replace HB:=Aside0.mk (below_step q24_ hb);(try clear hb)))
   go_ret
   exact ⟨q26_,q24_⟩
  rw [if_neg c2] at H
  have c2b0:=decide_eq_false c2
  clear c2
  by_cases c12:(l0.length:Int) ≤ 30
  ·rw [if_pos c12] at H
   have c12b0:=decide_eq_true c12
   have c12b1:decide (l0.length ≤ 30) = true:=decide_eq_true (by omega)
   clear c12
   obtain rfl:=Option.some.inj H
   go_wp2
   go_ret
   exact ⟨q26_,q24_⟩
  rw [if_neg c12] at H
  have c12b0:=decide_eq_false c12
  have c12b1:decide (l0.length ≤ 30) = false:=decide_eq_false (by omega)
  clear c12
  obtain rfl:=Option.some.inj H
  go_wp2
  go_ret
  exact ⟨q26_,q24_⟩
end Go.Proofs.YtabbdfchibjndaaGreatDoor.QFnExprTexts
