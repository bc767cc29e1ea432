/- The machine's side of a law,written by a program of this session for this claim. -/
import Derived.Test.YtodlnnoekccmmaaGreatDoorIQq
import Derived.Test.YtodlnnoekccmmaaGreatDoorIQFnInsTextsx0
import Derived.Test.YtodlnnoekccmmaaGreatDoorIQFnInsTextsx8
namespace Go.Proofs.YtodlnnoekccmmaaGreatDoor.QFnInsTexts
open Go.Proofs.YtodlnnoekccmmaaGreatDoor.Qq
open Go.RowKit Go.Proofs.YtodlnnoekccmmaaGreatDoor.LibX Go.Proofs.YtodlnnoekccmmaaGreatDoor.LibE Go.Proofs.YtodlnnoekccmmaaGreatDoor.LibCB Go.Proofs.YtodlnnoekccmmaaGreatDoorW.PrintWords Go.Proofs.YtodlnnoekccmmaaGreatDoorW.PrintLast Go.Proofs.YtodlnnoekccmmaaGreatDoorW.PrintMore
attribute [local go_sem] max2_int min2_int max_two min_two max_three min_three max_four min_four   -- for this text's walks alone
set_option maxHeartbeats 8000000
set_option maxRecDepth 100000
set_option linter.unusedVariables false
set_option linter.unusedSimpArgs false
def spec_l1Digit.j0:Nat → Int → Bool → Option (Int)
 | 0,_,_ => none
 | k + 1,x0,x3 => if x3 = true then (some ((x0 - 48) % 256)) else (if x0 ≥ 65 then (if x0 ≤ 70 then (some (((x0 - 65) % 256) + 10)) else (some 99)) else (some 99))
def spec_l1Digit.f (k:Nat) (a0:Int):Option (Int):=if a0 ≥ 48 then (spec_l1Digit.j0 k a0 (decide (a0 ≤ 57))) else (spec_l1Digit.j0 k a0 false)
theorem spec_l1Digit.mono_l:∀ k,(∀ y0 y1,LeO (spec_l1Digit.j0 k y0 y1) (spec_l1Digit.j0 (k + 1) y0 y1))
 | 0 => fun _ _ r h => by simp [spec_l1Digit.j0] at h
 | k + 1 => by
  have ih0:=spec_l1Digit.mono_l k
  intro y0 y1
  unfold spec_l1Digit.j0
  repeat' first
  | (with_reducible first | exact ih0 _ _ | exact LeO.refl _ | exact LeO.none _ | refine LeO.ite ?_ ?_ | refine LeO.bind ?_ (fun _ => ?_))
  | exact ih0 _ _
  | exact LeO.none _
  | refine LeO.ite ?_ ?_
  | refine LeO.bind ?_ (fun _ => ?_)
theorem spec_l1Digit.mono:∀ a0 k,LeO (spec_l1Digit.f k a0) (spec_l1Digit.f (k + 1) a0):=by
 intro a0 k
 have ih0:=spec_l1Digit.mono_l k
 unfold spec_l1Digit.f
 repeat' first
   | (with_reducible first | exact ih0 _ _ | exact LeO.refl _ | exact LeO.none _ | refine LeO.ite ?_ ?_ | refine LeO.bind ?_ (fun _ => ?_))
   | exact ih0 _ _
   | exact LeO.none _
   | refine LeO.ite ?_ ?_
   | refine LeO.bind ?_ (fun _ => ?_)
theorem spec_l1Digit.calls (k:Nat) (a0:Int) (r:Int) (w:World) (h:spec_l1Digit.f k a0 = some r) :
  Calls Tryz.prog 172 #[.int .u8 a0] w fun e w' => e = .returned (.int .i64 r) ∧ Drawn0 w w':=by
 have H:=h;unfold spec_l1Digit.f at H
 clear h
 have HC2:=Aside0.mk H
 clear H
 go_enter Tryz.func172,Tryz.ntmps172
 go_upto_region 1 with (fail)
 go_cut [3] (fun v3 wc => ∃ (kq:Nat) (x3_1:Bool),v3 = .bool x3_1 ∧ Aside0 (spec_l1Digit.j0 kq a0 x3_1 = some r) ∧ Aside0 (kq ≤ k) ∧ Drawn0 w wc)
 case first =>
  have H:=HC2.out
  clear HC2
  by_cases c3:a0 ≥ 48
  ·rw [if_pos c3] at H
   have c3b0:decide (48 ≤ a0) = true:=decide_eq_true c3
   clear c3
   (first | rw [c3b0] | (simp only [i64_w,i32_w];rw [c3b0]) | rw [c3b9] | skip)
   have H':=Aside0.mk H
   clear H
   go_wp2
   go_meet
   case rel => exact ⟨_,(decide (a0 ≤ 57)),q92_,H',⟨q121_⟩,q108_⟩
  rw [if_neg c3] at H
  have c3b0:decide (48 ≤ a0) = false:=decide_eq_false c3
  clear c3
  (first | rw [c3b0] | (simp only [i64_w,i32_w];rw [c3b0]) | rw [c3b9] | skip)
  have H':=Aside0.mk H
  clear H
  go_wp2
  go_meet
  case rel => exact ⟨_,(false),q92_,H',⟨q121_⟩,q108_⟩
 clear HC2
 try clear c1
 try clear p2
 try clear c3
 try clear c3b0
 obtain ⟨kq,x3_1,rfl,HA,HJ1,⟨mc1,rfl⟩⟩:=hcut
 cases kq with
 | zero => exact absurd HA.out (by simp [spec_l1Digit.j0])
 | succ kj1 =>
  have H:=HA.out
  clear HA
  simp only [spec_l1Digit.j0] at H
  by_cases c4:x3_1 = true
  ·subst c4
   rewrite [if_pos rfl] at H
   obtain rfl:=Option.some.inj H
   go_wp2
   go_ret
   exact ⟨q92_,q108_⟩
  replace c4:=Bool.eq_false_iff.mpr c4
  subst c4
  rewrite [if_neg (show ¬ (false = true) by decide)] at H
  by_cases c5:a0 ≥ 65
  ·rw [if_pos c5] at H
   have c5b0:decide (65 ≤ a0) = true:=decide_eq_true c5
   clear c5
   by_cases c6:a0 ≤ 70
   ·rw [if_pos c6] at H
    have c6b0:=decide_eq_true c6
    clear c6
    obtain rfl:=Option.some.inj H
    go_wp2
    go_ret
    exact ⟨q92_,q108_⟩
   rw [if_neg c6] at H
   have c6b0:=decide_eq_false c6
   clear c6
   obtain rfl:=Option.some.inj H
   go_wp2
   go_ret
   exact ⟨q92_,q108_⟩
  rw [if_neg c5] at H
  have c5b0:decide (65 ≤ a0) = false:=decide_eq_false c5
  clear c5
  obtain rfl:=Option.some.inj H
  go_wp2
  go_ret
  exact ⟨q92_,q108_⟩
def spec_l1Base.l0:Nat → ByteArray → Int → Int → Int → Option (Int × Bool)
 | 0,_,_,_,_ => none
 | k + 1,x0,x1,x6,x7 => if x7 < (x0.size:Int) then (if 0 ≤ x7 then ((spec_l1Digit.f k (bt x0 x7)).bind fun t582 => (if t582 ≥ x1 then (some (0,false)) else (if (wrap64 ((wrap64 (x6 * x1)) + t582)) > 65535 then (some (0,false)) else (spec_l1Base.l0 k x0 x1 (wrap64 ((wrap64 (x6 * x1)) + t582)) (wrap64 (x7 + 1)))))) else (none)) else (some (x6,(x0.toList != ([]:List UInt8))))
def spec_l1Base.f (k:Nat) (a0:ByteArray) (a1:Int):Option (Int × Bool):=spec_l1Base.l0 k a0 a1 0 0
theorem spec_l1Base.mono_l:∀ k,(∀ y0 y1 y2 y3,LeO (spec_l1Base.l0 k y0 y1 y2 y3) (spec_l1Base.l0 (k + 1) y0 y1 y2 y3))
 | 0 => fun _ _ _ _ r h => by simp [spec_l1Base.l0] at h
 | k + 1 => by
  have ih0:=spec_l1Base.mono_l k
  intro y0 y1 y2 y3
  unfold spec_l1Base.l0
  repeat' first
  | (with_reducible first | exact ih0 _ _ _ _ | exact spec_l1Digit.mono _ _ | exact LeO.refl _ | exact LeO.none _ | refine LeO.ite ?_ ?_ | refine LeO.bind ?_ (fun _ => ?_))
  | exact ih0 _ _ _ _
  | exact spec_l1Digit.mono _ _
  | exact LeO.none _
  | refine LeO.ite ?_ ?_
  | refine LeO.bind ?_ (fun _ => ?_)
theorem spec_l1Base.mono:∀ a0 a1 k,LeO (spec_l1Base.f k a0 a1) (spec_l1Base.f (k + 1) a0 a1):=by
 intro a0 a1 k
 have ih0:=spec_l1Base.mono_l k
 unfold spec_l1Base.f
 repeat' first
   | (with_reducible first | exact ih0 _ _ _ _ | exact spec_l1Digit.mono _ _ | exact LeO.refl _ | exact LeO.none _ | refine LeO.ite ?_ ?_ | refine LeO.bind ?_ (fun _ => ?_))
   | exact ih0 _ _ _ _
   | exact spec_l1Digit.mono _ _
   | exact LeO.none _
   | refine LeO.ite ?_ ?_
   | refine LeO.bind ?_ (fun _ => ?_)
theorem spec_l1Base.calls (k:Nat) (a0:ByteArray) (a1:Int) (r1:Int) (r2:Bool) (w:World) (h:spec_l1Base.f k a0 a1 = some (r1,r2)) :
  Calls Tryz.prog 152 #[.string a0,.int .i64 a1] w fun e w' => e = .returned (.tuple #[.int .i64 r1,.bool r2]) ∧ Drawn0 w w':=by
 have H:(spec_l1Base.l0 k a0 a1 0 0) = some (r1,r2):=h
 clear h
 have H':=Aside0.mk H
 clear H
 go_enter Tryz.func152,Tryz.ntmps152
 go_wp2
 go_loopg [6,7] k (fun kq v6 v7 w' => ∃ (x6_1:Int) (x7_1:Int),v6 = .int .i64 x6_1 ∧ v7 = .int .i64 x7_1 ∧ Aside0 (spec_l1Base.l0 kq a0 a1 x6_1 x7_1 = some (r1,r2)) ∧ Aside0 (kq ≤ k) ∧ Drawn0 w w')
 case atStart => exact ⟨(0),(0),q92_,q92_,H',⟨Nat.le_refl _⟩,q108_⟩
 clear H'
 try clear c1
 try clear p2
 obtain ⟨x6_1,x7_1,rfl,rfl,HA,HK1,⟨m1,rfl⟩⟩:=hrel
 cases gk with
 | zero => exact absurd HA.out (by simp [spec_l1Base.l0])
 | succ k1 =>
  have H:=HA.out
  clear HA
  simp only [spec_l1Base.l0] at H
  by_cases c3:x7_1 < (a0.size:Int)
  ·rw [if_pos c3] at H
   have c3b0:=decide_eq_true c3
   clear c3
   by_cases c4:0 ≤ x7_1
   rotate_left
   ·rw [if_neg c4] at H
    exact absurd H (by simp)
   rw [if_pos c4] at H
   have c4b0:=decide_eq_true c4
   clear c4
   replace H:=Option.bind_eq_some_iff.mp H
   obtain ⟨t582,A60,H⟩:=H
   have A6:=Aside0.mk A60
   clear A60
   by_cases c7:t582 ≥ a1
   ·rw [if_pos c7] at H
    have c7b0:decide (a1 ≤ t582) = true:=decide_eq_true c7
    clear c7
    simp only [Option.some.injEq,Prod.mk.injEq] at H
    obtain ⟨rfl,rfl⟩:=H
    have p5:0 ≤ (x7_1:Int):=of_decide_eq_true q109_
    have q5:x7_1 < (a0.size:Int):=of_decide_eq_true q109_
    have hx5:=bt_at a0 x7_1
    replace p5:=eq_true p5
    replace q5:=eq_true q5
    go_wp2_with (first | ((with_reducible refine gate_callee (f:=172) rfl ?_);refine goesL_ (some 18) rfl rfl Tryz.func172 (by kernel_rfl) rfl #[.int .u8 (bt a0 x7_1)] rfl q71_ ?_;(with_reducible refine (spec_l1Digit.calls k1 (bt a0 x7_1) t582 _ A6.out).mono ?_);rintro e w' ⟨rfl,⟨nd,rfl⟩⟩;refine ⟨_,rfl,?_⟩))
    go_ret2
    exact ⟨q92_,q108_⟩
   rw [if_neg c7] at H
   have c7b0:decide (a1 ≤ t582) = false:=decide_eq_false c7
   clear c7
   by_cases c8:(wrap64 ((wrap64 (x6_1 * a1)) + t582)) > 65535
   ·rw [if_pos c8] at H
    have c8b0:decide (65535 < (wrap64 ((wrap64 (x6_1 * a1)) + t582))) = true:=decide_eq_true c8
    clear c8
    simp only [Option.some.injEq,Prod.mk.injEq] at H
    obtain ⟨rfl,rfl⟩:=H
    have p5:0 ≤ (x7_1:Int):=of_decide_eq_true q109_
    have q5:x7_1 < (a0.size:Int):=of_decide_eq_true q109_
    have hx5:=bt_at a0 x7_1
    replace p5:=eq_true p5
    replace q5:=eq_true q5
    go_wp2_with (first | ((with_reducible refine gate_callee (f:=172) rfl ?_);refine goesL_ (some 18) rfl rfl Tryz.func172 (by kernel_rfl) rfl #[.int .u8 (bt a0 x7_1)] rfl q71_ ?_;(with_reducible refine (spec_l1Digit.calls k1 (bt a0 x7_1) t582 _ A6.out).mono ?_);rintro e w' ⟨rfl,⟨nd,rfl⟩⟩;refine ⟨_,rfl,?_⟩))
    go_ret2
    exact ⟨q92_,q108_⟩
   rw [if_neg c8] at H
   have c8b0:decide (65535 < (wrap64 ((wrap64 (x6_1 * a1)) + t582))) = false:=decide_eq_false c8
   clear c8
   have H':=Aside0.mk H
   clear H
   have p5:0 ≤ (x7_1:Int):=of_decide_eq_true q109_
   have q5:x7_1 < (a0.size:Int):=of_decide_eq_true q109_
   have hx5:=bt_at a0 x7_1
   replace p5:=eq_true p5
   replace q5:=eq_true q5
   go_wp2_with (first | ((with_reducible refine gate_callee (f:=172) rfl ?_);refine goesL_ (some 18) rfl rfl Tryz.func172 (by kernel_rfl) rfl #[.int .u8 (bt a0 x7_1)] rfl q71_ ?_;(with_reducible refine (spec_l1Digit.calls k1 (bt a0 x7_1) t582 _ A6.out).mono ?_);rintro e w' ⟨rfl,⟨nd,rfl⟩⟩;refine ⟨_,rfl,?_⟩))
   go_roundg k1
   case measure => have:=HK1.out;omega
   case rel => exact ⟨(wrap64 ((wrap64 (x6_1 * a1)) + t582)),(wrap64 (x7_1 + 1)),q92_,q92_,H',⟨by have:=HK1.out;omega⟩,q108_⟩
  rw [if_neg c3] at H
  have c3b0:=decide_eq_false c3
  clear c3
  simp only [Option.some.injEq,Prod.mk.injEq] at H
  obtain ⟨rfl,rfl⟩:=H
  go_wp2
  go_ret2
  exact ⟨q92_,q108_⟩
def spec_ReadNum.j0:Nat → ByteArray → Bool → Option (Int × Bool)
 | 0,_,_ => none
 | k + 1,x0,x10 => if x10 = true then (some (0,false)) else (if 0 < (x0.size:Int) then (if (bt x0 0) = 36 then (if 1 ≤ (x0.size:Int) then ((spec_l1Base.f k (x0.extract 1 x0.size) 16).bind fun bt583 => (some (bt583.1,bt583.2))) else (none)) else (if (bt x0 0) = 37 then (if 1 ≤ (x0.size:Int) then ((spec_l1Base.f k (x0.extract 1 x0.size) 2).bind fun bt585 => (some (bt585.1,bt585.2))) else (none)) else ((spec_l1Base.f k x0 10).bind fun bt587 => (some (bt587.1,bt587.2))))) else (none))
def spec_ReadNum.f (k:Nat) (a0:ByteArray):Option (Int × Bool):=if (a0.size:Int) > 18 then (spec_ReadNum.j0 k a0 true) else (spec_ReadNum.j0 k a0 (a0.toList == ([]:List UInt8)))
theorem spec_ReadNum.mono_l:∀ k,(∀ y0 y1,LeO (spec_ReadNum.j0 k y0 y1) (spec_ReadNum.j0 (k + 1) y0 y1))
 | 0 => fun _ _ r h => by simp [spec_ReadNum.j0] at h
 | k + 1 => by
  have ih0:=spec_ReadNum.mono_l k
  intro y0 y1
  unfold spec_ReadNum.j0
  repeat' first
  | (with_reducible first | exact ih0 _ _ | exact spec_l1Base.mono _ _ _ | exact LeO.refl _ | exact LeO.none _ | refine LeO.ite ?_ ?_ | refine LeO.bind ?_ (fun _ => ?_))
  | exact ih0 _ _
  | exact spec_l1Base.mono _ _ _
  | exact LeO.none _
  | refine LeO.ite ?_ ?_
  | refine LeO.bind ?_ (fun _ => ?_)
theorem spec_ReadNum.mono:∀ a0 k,LeO (spec_ReadNum.f k a0) (spec_ReadNum.f (k + 1) a0):=by
 intro a0 k
 have ih0:=spec_ReadNum.mono_l k
 unfold spec_ReadNum.f
 repeat' first
   | (with_reducible first | exact ih0 _ _ | exact spec_l1Base.mono _ _ _ | exact LeO.refl _ | exact LeO.none _ | refine LeO.ite ?_ ?_ | refine LeO.bind ?_ (fun _ => ?_))
   | exact ih0 _ _
   | exact spec_l1Base.mono _ _ _
   | exact LeO.none _
   | refine LeO.ite ?_ ?_
   | refine LeO.bind ?_ (fun _ => ?_)
theorem spec_ReadNum.calls (k:Nat) (a0:ByteArray) (r1:Int) (r2:Bool) (w:World) (h:spec_ReadNum.f k a0 = some (r1,r2)) :
  Calls Tryz.prog 121 #[.string a0] w fun e w' => e = .returned (.tuple #[.int .i64 r1,.bool r2]) ∧ Drawn0 w w':=by
 have H:=h;unfold spec_ReadNum.f at H
 clear h
 have HC2:=Aside0.mk H
 clear H
 go_enter Tryz.func121,Tryz.ntmps121
 go_upto_region 1 with (fail)
 go_cut [10] (fun v10 wc => ∃ (kq:Nat) (x10_1:Bool),v10 = .bool x10_1 ∧ Aside0 (spec_ReadNum.j0 kq a0 x10_1 = some (r1,r2)) ∧ Aside0 (kq ≤ k) ∧ Drawn0 w wc)
 case first =>
  have H:=HC2.out
  clear HC2
  by_cases c3:(a0.size:Int) > 18
  ·rw [if_pos c3] at H
   have c3b0:decide (18 < (a0.size:Int)) = true:=decide_eq_true c3
   have c3b1:decide (18 < a0.size) = true:=decide_eq_true (by omega)
   clear c3
   (first | rw [c3b0] | (simp only [i64_w,i32_w];rw [c3b0]) | rw [c3b9] | skip)
   have H':=Aside0.mk H
   clear H
   go_wp2
   go_meet
   case rel => exact ⟨_,(true),q92_,H',⟨q121_⟩,q108_⟩
  rw [if_neg c3] at H
  have c3b0:decide (18 < (a0.size:Int)) = false:=decide_eq_false c3
  have c3b1:decide (18 < a0.size) = false:=decide_eq_false (by omega)
  clear c3
  (first | rw [c3b0] | (simp only [i64_w,i32_w];rw [c3b0]) | rw [c3b9] | skip)
  have H':=Aside0.mk H
  clear H
  go_wp2
  go_meet
  case rel => exact ⟨_,((a0.toList == ([]:List UInt8))),q92_,H',⟨q121_⟩,q108_⟩
 clear HC2
 try clear c1
 try clear p2
 try clear c3
 try clear c3b0
 try clear c3b1
 obtain ⟨kq,x10_1,rfl,HA,HJ1,⟨mc1,rfl⟩⟩:=hcut
 cases kq with
 | zero => exact absurd HA.out (by simp [spec_ReadNum.j0])
 | succ kj1 =>
  have H:=HA.out
  clear HA
  simp only [spec_ReadNum.j0] at H
  by_cases c4:x10_1 = true
  ·subst c4
   rewrite [if_pos rfl] at H
   simp only [Option.some.injEq,Prod.mk.injEq] at H
   obtain ⟨rfl,rfl⟩:=H
   go_wp2
   go_ret2
   exact ⟨q92_,q108_⟩
  replace c4:=Bool.eq_false_iff.mpr c4
  subst c4
  rewrite [if_neg (show ¬ (false = true) by decide)] at H
  by_cases c5:0 < (a0.size:Int)
  rotate_left
  ·rw [if_neg c5] at H
   exact absurd H (by simp)
  rw [if_pos c5] at H
  have c5b0:=decide_eq_true c5
  have c5b1:decide (0 < a0.size) = true:=decide_eq_true (by omega)
  clear c5
  by_cases c7:(bt a0 0) = 36
  ·rw [if_pos c7] at H
   have c7b0:((bt a0 0) == 36) = true:=beq_iff_eq.mpr c7
   have c7b1:((bt a0 0) != 36) = false:=bne_eq_false_iff_eq.mpr c7
   clear c7
   by_cases c8:1 ≤ (a0.size:Int)
   rotate_left
   ·rw [if_neg c8] at H
    exact absurd H (by simp)
   rw [if_pos c8] at H
   have c8b0:=eq_true c8
   have c8b1:=decide_eq_true c8
   clear c8
   replace H:=Option.bind_eq_some_iff.mp H
   obtain ⟨⟨t583,t584⟩,A90,H⟩:=H
   try dsimp -simprocs -eta only at H
   have A9:=Aside0.mk A90
   clear A90
   simp only [Option.some.injEq,Prod.mk.injEq] at H
   obtain ⟨rfl,rfl⟩:=H
   have p6:0 ≤ (0:Int):=(by omega)
   have q6:0 < a0.size:=(by have:(0:Int) < (a0.size:Int):=of_decide_eq_true q109_;omega)
   have hx6:∀ h:0 < a0.size,((a0[0]'h).toNat:Int) = bt a0 0:=bt_at a0 0
   clear p6
   have qi6:(0 < (a0.size:Int)) = True:=eq_true (of_decide_eq_true q109_)
   replace q6:=eq_true q6
   go_wp2_with (first | ((with_reducible refine gate_callee (f:=152) rfl ?_);refine goesL_ (some 17) rfl rfl Tryz.func152 (by kernel_rfl) rfl #[.string (a0.extract 1 a0.size),.int .i64 16] rfl q71_ ?_;(with_reducible refine (spec_l1Base.calls kj1 (a0.extract 1 a0.size) 16 t583 t584 _ A9.out).mono ?_);rintro e w' ⟨rfl,⟨nd,rfl⟩⟩;refine ⟨_,rfl,?_⟩))
   go_ret2
   exact ⟨q92_,q108_⟩
  rw [if_neg c7] at H
  have c7b0:((bt a0 0) == 36) = false:=beq_eq_false_iff_ne.mpr c7
  have c7b1:((bt a0 0) != 36) = true:=bne_iff_ne.mpr c7
  by_cases c10:(bt a0 0) = 37
  ·rw [if_pos c10] at H
   have c10b0:((bt a0 0) == 37) = true:=beq_iff_eq.mpr c10
   have c10b1:((bt a0 0) != 37) = false:=bne_eq_false_iff_eq.mpr c10
   clear c10
   by_cases c11:1 ≤ (a0.size:Int)
   rotate_left
   ·rw [if_neg c11] at H
    exact absurd H (by simp)
   rw [if_pos c11] at H
   have c11b0:=eq_true c11
   have c11b1:=decide_eq_true c11
   clear c11
   replace H:=Option.bind_eq_some_iff.mp H
   obtain ⟨⟨t585,t586⟩,A120,H⟩:=H
   try dsimp -simprocs -eta only at H
   have A12:=Aside0.mk A120
   clear A120
   simp only [Option.some.injEq,Prod.mk.injEq] at H
   obtain ⟨rfl,rfl⟩:=H
   have p6:0 ≤ (0:Int):=(by omega)
   have q6:0 < a0.size:=(by have:(0:Int) < (a0.size:Int):=of_decide_eq_true q109_;omega)
   have hx6:∀ h:0 < a0.size,((a0[0]'h).toNat:Int) = bt a0 0:=bt_at a0 0
   clear p6
   have qi6:(0 < (a0.size:Int)) = True:=eq_true (of_decide_eq_true q109_)
   replace q6:=eq_true q6
   go_wp2_with (first | ((with_reducible refine gate_callee (f:=152) rfl ?_);refine goesL_ (some 24) rfl rfl Tryz.func152 (by kernel_rfl) rfl #[.string (a0.extract 1 a0.size),.int .i64 2] rfl q71_ ?_;(with_reducible refine (spec_l1Base.calls kj1 (a0.extract 1 a0.size) 2 t585 t586 _ A12.out).mono ?_);rintro e w' ⟨rfl,⟨nd,rfl⟩⟩;refine ⟨_,rfl,?_⟩))
   go_ret2
   exact ⟨q92_,q108_⟩
  rw [if_neg c10] at H
  have c10b0:((bt a0 0) == 37) = false:=beq_eq_false_iff_ne.mpr c10
  have c10b1:((bt a0 0) != 37) = true:=bne_iff_ne.mpr c10
  replace H:=Option.bind_eq_some_iff.mp H
  obtain ⟨⟨t587,t588⟩,A130,H⟩:=H
  try dsimp -simprocs -eta only at H
  have A13:=Aside0.mk A130
  clear A130
  simp only [Option.some.injEq,Prod.mk.injEq] at H
  obtain ⟨rfl,rfl⟩:=H
  have p6:0 ≤ (0:Int):=(by omega)
  have q6:0 < a0.size:=(by have:(0:Int) < (a0.size:Int):=of_decide_eq_true q109_;omega)
  have hx6:∀ h:0 < a0.size,((a0[0]'h).toNat:Int) = bt a0 0:=bt_at a0 0
  clear p6
  have qi6:(0 < (a0.size:Int)) = True:=eq_true (of_decide_eq_true q109_)
  replace q6:=eq_true q6
  go_wp2_with (first | ((with_reducible refine gate_callee (f:=152) rfl ?_);refine goesL_ (some 28) rfl rfl Tryz.func152 (by kernel_rfl) rfl #[.string a0,.int .i64 10] rfl q71_ ?_;(with_reducible refine (spec_l1Base.calls kj1 a0 10 t587 t588 _ A13.out).mono ?_);rintro e w' ⟨rfl,⟨nd,rfl⟩⟩;refine ⟨_,rfl,?_⟩))
  go_ret2
  exact ⟨q92_,q108_⟩
def spec_l3Imm.j0:Nat → ByteArray → Bool → Option (Int)
 | 0,_,_ => none
 | k + 1,x0,x14 => if x14 = true then (if 1 ≤ (x0.size:Int) then ((spec_ReadNum.f k (x0.extract 1 x0.size)).bind fun bt589 => (if bt589.2 = true then ((spec_l1In.f bt589.1 1 128).bind fun t591 => (if t591 = true then (some (wrap64 (256 - bt589.1))) else (some (-1)))) else (some (-1)))) else (none)) else ((spec_ReadNum.f k x0).bind fun bt592 => (if bt592.2 = true then (some bt592.1) else (some (-1))))
def spec_l3Imm.f (k:Nat) (a0:ByteArray):Option (Int):=if (a0.size:Int) > 1 then (if 0 < (a0.size:Int) then (spec_l3Imm.j0 k a0 ((bt a0 0) == 45)) else (none)) else (spec_l3Imm.j0 k a0 false)
theorem spec_l3Imm.mono_l:∀ k,(∀ y0 y1,LeO (spec_l3Imm.j0 k y0 y1) (spec_l3Imm.j0 (k + 1) y0 y1))
 | 0 => fun _ _ r h => by simp [spec_l3Imm.j0] at h
 | k + 1 => by
  have ih0:=spec_l3Imm.mono_l k
  intro y0 y1
  unfold spec_l3Imm.j0
  repeat' first
  | (with_reducible first | exact ih0 _ _ | exact spec_ReadNum.mono _ _ | exact LeO.refl _ | exact LeO.none _ | refine LeO.ite ?_ ?_ | refine LeO.bind ?_ (fun _ => ?_))
  | exact ih0 _ _
  | exact spec_ReadNum.mono _ _
  | exact LeO.none _
  | refine LeO.ite ?_ ?_
  | refine LeO.bind ?_ (fun _ => ?_)
theorem spec_l3Imm.mono:∀ a0 k,LeO (spec_l3Imm.f k a0) (spec_l3Imm.f (k + 1) a0):=by
 intro a0 k
 have ih0:=spec_l3Imm.mono_l k
 unfold spec_l3Imm.f
 repeat' first
   | (with_reducible first | exact ih0 _ _ | exact spec_ReadNum.mono _ _ | exact LeO.refl _ | exact LeO.none _ | refine LeO.ite ?_ ?_ | refine LeO.bind ?_ (fun _ => ?_))
   | exact ih0 _ _
   | exact spec_ReadNum.mono _ _
   | exact LeO.none _
   | refine LeO.ite ?_ ?_
   | refine LeO.bind ?_ (fun _ => ?_)
theorem spec_l3Imm.calls (k:Nat) (a0:ByteArray) (r:Int) (w:World) (h:spec_l3Imm.f k a0 = some r) :
  Calls Tryz.prog 75 #[.string a0] w fun e w' => e = .returned (.int .i64 r) ∧ Drawn0 w w':=by
 have H:=h;unfold spec_l3Imm.f at H
 clear h
 have HC2:=Aside0.mk H
 clear H
 go_enter Tryz.func75,Tryz.ntmps75
 go_upto_region 1 with (fail)
 go_cut [14] (fun v14 wc => ∃ (kq:Nat) (x14_1:Bool),v14 = .bool x14_1 ∧ Aside0 (spec_l3Imm.j0 kq a0 x14_1 = some r) ∧ Aside0 (kq ≤ k) ∧ Drawn0 w wc)
 case first =>
  have H:=HC2.out
  clear HC2
  by_cases c3:(a0.size:Int) > 1
  ·rw [if_pos c3] at H
   have c3b0:decide (1 < (a0.size:Int)) = true:=decide_eq_true c3
   have c3b1:decide (1 < a0.size) = true:=decide_eq_true (by omega)
   clear c3
   (first | rw [c3b0] | (simp only [i64_w,i32_w];rw [c3b0]) | rw [c3b9] | skip)
   by_cases c4:0 < (a0.size:Int)
   rotate_left
   ·rw [if_neg c4] at H
    exact absurd H (by simp)
   rw [if_pos c4] at H
   have c4b0:=decide_eq_true c4
   have c4b1:decide (0 < a0.size) = true:=decide_eq_true (by omega)
   clear c4
   have H':=Aside0.mk H
   clear H
   have p5:0 ≤ (0:Int):=(by omega)
   have q5:0 < a0.size:=(by have:(0:Int) < (a0.size:Int):=of_decide_eq_true q109_;omega)
   have hx5:∀ h:0 < a0.size,((a0[0]'h).toNat:Int) = bt a0 0:=bt_at a0 0
   clear p5
   have qi5:(0 < (a0.size:Int)) = True:=eq_true (of_decide_eq_true q109_)
   replace q5:=eq_true q5
   go_wp2
   go_meet
   case rel => exact ⟨_,(((bt a0 0) == 45)),q92_,H',⟨q121_⟩,q108_⟩
  rw [if_neg c3] at H
  have c3b0:decide (1 < (a0.size:Int)) = false:=decide_eq_false c3
  have c3b1:decide (1 < a0.size) = false:=decide_eq_false (by omega)
  clear c3
  (first | rw [c3b0] | (simp only [i64_w,i32_w];rw [c3b0]) | rw [c3b9] | skip)
  have H':=Aside0.mk H
  clear H
  go_wp2
  go_meet
  case rel => exact ⟨_,(false),q92_,H',⟨q121_⟩,q108_⟩
 clear HC2
 try clear p2
 try clear c3
 try clear c3b0
 try clear c3b1
 try clear c4
 try clear c4b0
 try clear c4b1
 try clear p5 p5
 try clear q5 q5
 try clear hx5
 try clear qi5
 obtain ⟨kq,x14_1,rfl,HA,HJ1,⟨mc1,rfl⟩⟩:=hcut
 cases kq with
 | zero => exact absurd HA.out (by simp [spec_l3Imm.j0])
 | succ kj1 =>
  have H:=HA.out
  clear HA
  simp only [spec_l3Imm.j0] at H
  by_cases c6:x14_1 = true
  ·subst c6
   rewrite [if_pos rfl] at H
   by_cases c7:1 ≤ (a0.size:Int)
   rotate_left
   ·rw [if_neg c7] at H
    exact absurd H (by simp)
   rw [if_pos c7] at H
   have c7b0:=eq_true c7
   have c7b1:=decide_eq_true c7
   clear c7
   replace H:=Option.bind_eq_some_iff.mp H
   obtain ⟨⟨t589,t590⟩,A80,H⟩:=H
   try dsimp -simprocs -eta only at H
   have A8:=Aside0.mk A80
   clear A80
   by_cases c9:t590 = true
   ·subst c9
    rewrite [if_pos rfl] at H
    replace H:=Option.bind_eq_some_iff.mp H
    obtain ⟨t591,A100,H⟩:=H
    have A10:=Aside0.mk A100
    clear A100
    by_cases c11:t591 = true
    ·subst c11
     rewrite [if_pos rfl] at H
     obtain rfl:=Option.some.inj H
     go_wp2_with (first | ((with_reducible refine gate_callee (f:=121) rfl ?_);refine goesL_ (some 18) rfl rfl Tryz.func121 (by kernel_rfl) rfl #[.string (a0.extract 1 a0.size)] rfl q71_ ?_;(with_reducible refine (spec_ReadNum.calls kj1 (a0.extract 1 a0.size) t589 true _ A8.out).mono ?_);rintro e w' ⟨rfl,⟨nd,rfl⟩⟩;refine ⟨_,rfl,?_⟩) | (go_at_call 51;(with_reducible refine (spec_l1In.calls t589 1 128 true _ A10.out).mono ?_);rintro e w' ⟨rfl,⟨nd,rfl⟩⟩))
     go_ret
     exact ⟨q92_,q108_⟩
    replace c11:=Bool.eq_false_iff.mpr c11
    subst c11
    rewrite [if_neg (show ¬ (false = true) by decide)] at H
    obtain rfl:=Option.some.inj H
    go_wp2_with (first | ((with_reducible refine gate_callee (f:=121) rfl ?_);refine goesL_ (some 18) rfl rfl Tryz.func121 (by kernel_rfl) rfl #[.string (a0.extract 1 a0.size)] rfl q71_ ?_;(with_reducible refine (spec_ReadNum.calls kj1 (a0.extract 1 a0.size) t589 true _ A8.out).mono ?_);rintro e w' ⟨rfl,⟨nd,rfl⟩⟩;refine ⟨_,rfl,?_⟩) | (go_at_call 51;(with_reducible refine (spec_l1In.calls t589 1 128 false _ A10.out).mono ?_);rintro e w' ⟨rfl,⟨nd,rfl⟩⟩))
    go_ret
    exact ⟨q92_,q108_⟩
   replace c9:=Bool.eq_false_iff.mpr c9
   subst c9
   rewrite [if_neg (show ¬ (false = true) by decide)] at H
   obtain rfl:=Option.some.inj H
   go_wp2_with (first | ((with_reducible refine gate_callee (f:=121) rfl ?_);refine goesL_ (some 18) rfl rfl Tryz.func121 (by kernel_rfl) rfl #[.string (a0.extract 1 a0.size)] rfl q71_ ?_;(with_reducible refine (spec_ReadNum.calls kj1 (a0.extract 1 a0.size) t589 false _ A8.out).mono ?_);rintro e w' ⟨rfl,⟨nd,rfl⟩⟩;refine ⟨_,rfl,?_⟩))
   go_ret
   exact ⟨q92_,q108_⟩
  replace c6:=Bool.eq_false_iff.mpr c6
  subst c6
  rewrite [if_neg (show ¬ (false = true) by decide)] at H
  replace H:=Option.bind_eq_some_iff.mp H
  obtain ⟨⟨t592,t593⟩,A120,H⟩:=H
  try dsimp -simprocs -eta only at H
  have A12:=Aside0.mk A120
  clear A120
  by_cases c13:t593 = true
  ·subst c13
   rewrite [if_pos rfl] at H
   obtain rfl:=Option.some.inj H
   go_wp2_with (first | ((with_reducible refine gate_callee (f:=121) rfl ?_);refine goesL_ (some 32) rfl rfl Tryz.func121 (by kernel_rfl) rfl #[.string a0] rfl q71_ ?_;(with_reducible refine (spec_ReadNum.calls kj1 a0 t592 true _ A12.out).mono ?_);rintro e w' ⟨rfl,⟨nd,rfl⟩⟩;refine ⟨_,rfl,?_⟩))
   go_ret
   exact ⟨q92_,q108_⟩
  replace c13:=Bool.eq_false_iff.mpr c13
  subst c13
  rewrite [if_neg (show ¬ (false = true) by decide)] at H
  obtain rfl:=Option.some.inj H
  go_wp2_with (first | ((with_reducible refine gate_callee (f:=121) rfl ?_);refine goesL_ (some 32) rfl rfl Tryz.func121 (by kernel_rfl) rfl #[.string a0] rfl q71_ ?_;(with_reducible refine (spec_ReadNum.calls kj1 a0 t592 false _ A12.out).mono ?_);rintro e w' ⟨rfl,⟨nd,rfl⟩⟩;refine ⟨_,rfl,?_⟩))
  go_ret
  exact ⟨q92_,q108_⟩
end Go.Proofs.YtodlnnoekccmmaaGreatDoor.QFnInsTexts
