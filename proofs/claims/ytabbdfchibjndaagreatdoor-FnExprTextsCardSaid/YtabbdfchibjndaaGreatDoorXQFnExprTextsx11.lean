/- The machine's side of a law,written by a program of this session for this claim. -/
import Derived.Test.YtabbdfchibjndaaGreatDoorXQq
import Derived.Test.YtabbdfchibjndaaGreatDoorXQFnExprTextsx0
import Derived.Test.YtabbdfchibjndaaGreatDoorXQFnExprTextsx9
import Derived.Test.YtabbdfchibjndaaGreatDoorXQFnExprTextsx10
namespace Go.Proofs.YtabbdfchibjndaaGreatDoor.QFnExprTexts
open Go.Proofs.YtabbdfchibjndaaGreatDoor.Qq
open Go.RowKit Go.Proofs.YtabbdfchibjndaaGreatDoor.LibX Go.Proofs.YtabbdfchibjndaaGreatDoor.LibE Go.Proofs.YtabbdfchibjndaaGreatDoor.LibG Go.Proofs.YtabbdfchibjndaaGreatDoor.LibCv Go.Proofs.YtabbdfchibjndaaGreatDoorW.PrintWords Go.Proofs.YtabbdfchibjndaaGreatDoorW.PrintLast Go.Proofs.YtabbdfchibjndaaGreatDoorW.PrintMore
attribute [local go_sem] max2_int min2_int max_two min_two max_three min_three max_four min_four   -- for this text's walks alone
set_option maxHeartbeats 8000000
set_option maxRecDepth 100000
set_option linter.unusedVariables false
set_option linter.unusedSimpArgs false
def spec_l1Base.l0:Nat → ByteArray → Int → Int → Int → Option (Int × Bool)
 | 0,_,_,_,_ => none
 | k + 1,x0,x1,x6,x7 => if x7 < (x0.size:Int) then (if 0 ≤ x7 then ((spec_l1Digit.f k (bt x0 x7)).bind fun t344 => (if t344 ≥ x1 then (some (0,false)) else (if (wrap64 ((wrap64 (x6 * x1)) + t344)) > 65535 then (some (0,false)) else (spec_l1Base.l0 k x0 x1 (wrap64 ((wrap64 (x6 * x1)) + t344)) (wrap64 (x7 + 1)))))) else (none)) else (some (x6,(x0.toList != ([]:List UInt8))))
def spec_l1Base.f (k:Nat) (a0:ByteArray) (a1:Int):Option (Int × Bool):=spec_l1Base.l0 k a0 a1 0 0
theorem spec_l1Base.mono_l:∀ k,(∀ y0 y1 y2 y3,LeO (spec_l1Base.l0 k y0 y1 y2 y3) (spec_l1Base.l0 (k + 1) y0 y1 y2 y3))
 | 0 => fun _ _ _ _ r h => by simp [spec_l1Base.l0] at h
 | k + 1 => by
  have ih0:=spec_l1Base.mono_l k
  intro y0 y1 y2 y3
  unfold spec_l1Base.l0
  repeat' first
  | (with_reducible first | exact ih0 _ _ _ _ | exact spec_l1Digit.mono _ _ | exact LeO.refl _ | exact LeO.none _ | refine LeO.ite ?_ ?_ | refine LeO.bind ?_ (fun _ => ?_))
  | exact ih0 _ _ _ _
  | exact spec_l1Digit.mono _ _
  | exact LeO.none _
  | refine LeO.ite ?_ ?_
  | refine LeO.bind ?_ (fun _ => ?_)
theorem spec_l1Base.mono:∀ a0 a1 k,LeO (spec_l1Base.f k a0 a1) (spec_l1Base.f (k + 1) a0 a1):=by
 intro a0 a1 k
 have ih0:=spec_l1Base.mono_l k
 unfold spec_l1Base.f
 repeat' first
   | (with_reducible first | exact ih0 _ _ _ _ | exact spec_l1Digit.mono _ _ | exact LeO.refl _ | exact LeO.none _ | refine LeO.ite ?_ ?_ | refine LeO.bind ?_ (fun _ => ?_))
   | exact ih0 _ _ _ _
   | exact spec_l1Digit.mono _ _
   | exact LeO.none _
   | refine LeO.ite ?_ ?_
   | refine LeO.bind ?_ (fun _ => ?_)
theorem spec_l1Base.calls (k:Nat) (a0:ByteArray) (a1:Int) (r1:Int) (r2:Bool) (w:World) (h:spec_l1Base.f k a0 a1 = some (r1,r2)) :
  Calls Tryz.prog 68 #[.string a0,.int .i64 a1] w fun e w' => e = .returned (.tuple #[.int .i64 r1,.bool r2]) ∧ Drawn0 w w':=by
 have H:(spec_l1Base.l0 k a0 a1 0 0) = some (r1,r2):=h
 clear h
 have H':=Aside0.mk H
 clear H
 go_enter Tryz.func68,Tryz.ntmps68
 go_wp2
 go_loopg [6,7] k (fun kq v6 v7 w' => ∃ (x6_1:Int) (x7_1:Int),v6 = .int .i64 x6_1 ∧ v7 = .int .i64 x7_1 ∧ Aside0 (spec_l1Base.l0 kq a0 a1 x6_1 x7_1 = some (r1,r2)) ∧ Aside0 (kq ≤ k) ∧ Drawn0 w w')
 case atStart => exact ⟨(0),(0),q31_,q31_,H',⟨Nat.le_refl _⟩,q44_⟩
 clear H'
 try clear p2
 obtain ⟨x6_1,x7_1,rfl,rfl,HA,HK1,⟨m1,rfl⟩⟩:=hrel
 cases gk with
 | zero => exact absurd HA.out (by simp [spec_l1Base.l0])
 | succ k1 =>
  have H:=HA.out
  clear HA
  simp only [spec_l1Base.l0] at H
  by_cases c3:x7_1 < (a0.size:Int)
  ·rw [if_pos c3] at H
   have c3b0:=decide_eq_true c3
   clear c3
   by_cases c4:0 ≤ x7_1
   rotate_left
   ·rw [if_neg c4] at H
    exact absurd H (by simp)
   rw [if_pos c4] at H
   have c4b0:=decide_eq_true c4
   clear c4
   replace H:=Option.bind_eq_some_iff.mp H
   obtain ⟨t344,A60,H⟩:=H
   have A6:=Aside0.mk A60
   clear A60
   by_cases c7:t344 ≥ a1
   ·rw [if_pos c7] at H
    have c7b0:decide (a1 ≤ t344) = true:=decide_eq_true c7
    clear c7
    simp only [Option.some.injEq,Prod.mk.injEq] at H
    obtain ⟨rfl,rfl⟩:=H
    have p5:0 ≤ (x7_1:Int):=of_decide_eq_true q46_
    have q5:x7_1 < (a0.size:Int):=of_decide_eq_true q46_
    have hx5:=bt_at a0 x7_1
    replace p5:=eq_true p5
    replace q5:=eq_true q5
    go_wp2_with (first | ((with_reducible refine gate_callee (f:=86) rfl ?_);refine goesL_ (some 18) rfl rfl Tryz.func86 (by kernel_rfl) rfl #[.int .u8 (bt a0 x7_1)] rfl q22_ ?_;(with_reducible refine (spec_l1Digit.calls k1 (bt a0 x7_1) t344 _ A6.out).mono ?_);rintro e w' ⟨rfl,⟨nd,rfl⟩⟩;refine ⟨_,rfl,?_⟩))
    go_ret2
    exact ⟨q31_,q44_⟩
   rw [if_neg c7] at H
   have c7b0:decide (a1 ≤ t344) = false:=decide_eq_false c7
   clear c7
   by_cases c8:(wrap64 ((wrap64 (x6_1 * a1)) + t344)) > 65535
   ·rw [if_pos c8] at H
    have c8b0:decide (65535 < (wrap64 ((wrap64 (x6_1 * a1)) + t344))) = true:=decide_eq_true c8
    clear c8
    simp only [Option.some.injEq,Prod.mk.injEq] at H
    obtain ⟨rfl,rfl⟩:=H
    have p5:0 ≤ (x7_1:Int):=of_decide_eq_true q46_
    have q5:x7_1 < (a0.size:Int):=of_decide_eq_true q46_
    have hx5:=bt_at a0 x7_1
    replace p5:=eq_true p5
    replace q5:=eq_true q5
    go_wp2_with (first | ((with_reducible refine gate_callee (f:=86) rfl ?_);refine goesL_ (some 18) rfl rfl Tryz.func86 (by kernel_rfl) rfl #[.int .u8 (bt a0 x7_1)] rfl q22_ ?_;(with_reducible refine (spec_l1Digit.calls k1 (bt a0 x7_1) t344 _ A6.out).mono ?_);rintro e w' ⟨rfl,⟨nd,rfl⟩⟩;refine ⟨_,rfl,?_⟩))
    go_ret2
    exact ⟨q31_,q44_⟩
   rw [if_neg c8] at H
   have c8b0:decide (65535 < (wrap64 ((wrap64 (x6_1 * a1)) + t344))) = false:=decide_eq_false c8
   clear c8
   have H':=Aside0.mk H
   clear H
   have p5:0 ≤ (x7_1:Int):=of_decide_eq_true q46_
   have q5:x7_1 < (a0.size:Int):=of_decide_eq_true q46_
   have hx5:=bt_at a0 x7_1
   replace p5:=eq_true p5
   replace q5:=eq_true q5
   go_wp2_with (first | ((with_reducible refine gate_callee (f:=86) rfl ?_);refine goesL_ (some 18) rfl rfl Tryz.func86 (by kernel_rfl) rfl #[.int .u8 (bt a0 x7_1)] rfl q22_ ?_;(with_reducible refine (spec_l1Digit.calls k1 (bt a0 x7_1) t344 _ A6.out).mono ?_);rintro e w' ⟨rfl,⟨nd,rfl⟩⟩;refine ⟨_,rfl,?_⟩))
   go_roundg k1
   case measure => have:=HK1.out;omega
   case rel => exact ⟨(wrap64 ((wrap64 (x6_1 * a1)) + t344)),(wrap64 (x7_1 + 1)),q31_,q31_,H',⟨by have:=HK1.out;omega⟩,q44_⟩
  rw [if_neg c3] at H
  have c3b0:=decide_eq_false c3
  clear c3
  simp only [Option.some.injEq,Prod.mk.injEq] at H
  obtain ⟨rfl,rfl⟩:=H
  go_wp2
  go_ret2
  exact ⟨q31_,q44_⟩
def spec_ReadNum.j0:Nat → ByteArray → Bool → Option (Int × Bool)
 | 0,_,_ => none
 | k + 1,x0,x10 => if x10 = true then (some (0,false)) else (if 0 < (x0.size:Int) then (if (bt x0 0) = 36 then (if 1 ≤ (x0.size:Int) then ((spec_l1Base.f k (x0.extract 1 x0.size) 16).bind fun bt345 => (some (bt345.1,bt345.2))) else (none)) else (if (bt x0 0) = 37 then (if 1 ≤ (x0.size:Int) then ((spec_l1Base.f k (x0.extract 1 x0.size) 2).bind fun bt347 => (some (bt347.1,bt347.2))) else (none)) else ((spec_l1Base.f k x0 10).bind fun bt349 => (some (bt349.1,bt349.2))))) else (none))
def spec_ReadNum.f (k:Nat) (a0:ByteArray):Option (Int × Bool):=if (a0.size:Int) > 18 then (spec_ReadNum.j0 k a0 true) else (spec_ReadNum.j0 k a0 (a0.toList == ([]:List UInt8)))
theorem spec_ReadNum.mono_l:∀ k,(∀ y0 y1,LeO (spec_ReadNum.j0 k y0 y1) (spec_ReadNum.j0 (k + 1) y0 y1))
 | 0 => fun _ _ r h => by simp [spec_ReadNum.j0] at h
 | k + 1 => by
  have ih0:=spec_ReadNum.mono_l k
  intro y0 y1
  unfold spec_ReadNum.j0
  repeat' first
  | (with_reducible first | exact ih0 _ _ | exact spec_l1Base.mono _ _ _ | exact LeO.refl _ | exact LeO.none _ | refine LeO.ite ?_ ?_ | refine LeO.bind ?_ (fun _ => ?_))
  | exact ih0 _ _
  | exact spec_l1Base.mono _ _ _
  | exact LeO.none _
  | refine LeO.ite ?_ ?_
  | refine LeO.bind ?_ (fun _ => ?_)
theorem spec_ReadNum.mono:∀ a0 k,LeO (spec_ReadNum.f k a0) (spec_ReadNum.f (k + 1) a0):=by
 intro a0 k
 have ih0:=spec_ReadNum.mono_l k
 unfold spec_ReadNum.f
 repeat' first
   | (with_reducible first | exact ih0 _ _ | exact spec_l1Base.mono _ _ _ | exact LeO.refl _ | exact LeO.none _ | refine LeO.ite ?_ ?_ | refine LeO.bind ?_ (fun _ => ?_))
   | exact ih0 _ _
   | exact spec_l1Base.mono _ _ _
   | exact LeO.none _
   | refine LeO.ite ?_ ?_
   | refine LeO.bind ?_ (fun _ => ?_)
theorem spec_ReadNum.calls (k:Nat) (a0:ByteArray) (r1:Int) (r2:Bool) (w:World) (h:spec_ReadNum.f k a0 = some (r1,r2)) :
  Calls Tryz.prog 47 #[.string a0] w fun e w' => e = .returned (.tuple #[.int .i64 r1,.bool r2]) ∧ Drawn0 w w':=by
 have H:=h;unfold spec_ReadNum.f at H
 clear h
 have HC2:=Aside0.mk H
 clear H
 go_enter Tryz.func47,Tryz.ntmps47
 go_upto_region 1 with (fail)
 go_cut [10] (fun v10 wc => ∃ (kq:Nat) (x10_1:Bool),v10 = .bool x10_1 ∧ Aside0 (spec_ReadNum.j0 kq a0 x10_1 = some (r1,r2)) ∧ Aside0 (kq ≤ k) ∧ Drawn0 w wc)
 case first =>
  have H:=HC2.out
  clear HC2
  by_cases c3:(a0.size:Int) > 18
  ·rw [if_pos c3] at H
   have c3b0:decide (18 < (a0.size:Int)) = true:=decide_eq_true c3
   have c3b1:decide (18 < a0.size) = true:=decide_eq_true (by omega)
   clear c3
   (first | rw [c3b0] | (simp only [i64_w,i32_w];rw [c3b0]) | rw [c3b9] | skip)
   have H':=Aside0.mk H
   clear H
   go_wp2
   go_meet
   case rel => exact ⟨_,(true),q31_,H',⟨q48_⟩,q44_⟩
  rw [if_neg c3] at H
  have c3b0:decide (18 < (a0.size:Int)) = false:=decide_eq_false c3
  have c3b1:decide (18 < a0.size) = false:=decide_eq_false (by omega)
  clear c3
  (first | rw [c3b0] | (simp only [i64_w,i32_w];rw [c3b0]) | rw [c3b9] | skip)
  have H':=Aside0.mk H
  clear H
  go_wp2
  go_meet
  case rel => exact ⟨_,((a0.toList == ([]:List UInt8))),q31_,H',⟨q48_⟩,q44_⟩
 clear HC2
 try clear p2
 try clear c3
 try clear c3b0
 try clear c3b1
 obtain ⟨kq,x10_1,rfl,HA,HJ1,⟨mc1,rfl⟩⟩:=hcut
 cases kq with
 | zero => exact absurd HA.out (by simp [spec_ReadNum.j0])
 | succ kj1 =>
  have H:=HA.out
  clear HA
  simp only [spec_ReadNum.j0] at H
  by_cases c4:x10_1 = true
  ·subst c4
   rewrite [if_pos rfl] at H
   simp only [Option.some.injEq,Prod.mk.injEq] at H
   obtain ⟨rfl,rfl⟩:=H
   go_wp2
   go_ret2
   exact ⟨q31_,q44_⟩
  replace c4:=Bool.eq_false_iff.mpr c4
  subst c4
  rewrite [if_neg (show ¬ (false = true) by decide)] at H
  by_cases c5:0 < (a0.size:Int)
  rotate_left
  ·rw [if_neg c5] at H
   exact absurd H (by simp)
  rw [if_pos c5] at H
  have c5b0:=decide_eq_true c5
  have c5b1:decide (0 < a0.size) = true:=decide_eq_true (by omega)
  clear c5
  by_cases c7:(bt a0 0) = 36
  ·rw [if_pos c7] at H
   have c7b0:((bt a0 0) == 36) = true:=beq_iff_eq.mpr c7
   have c7b1:((bt a0 0) != 36) = false:=bne_eq_false_iff_eq.mpr c7
   clear c7
   by_cases c8:1 ≤ (a0.size:Int)
   rotate_left
   ·rw [if_neg c8] at H
    exact absurd H (by simp)
   rw [if_pos c8] at H
   have c8b0:=eq_true c8
   have c8b1:=decide_eq_true c8
   clear c8
   replace H:=Option.bind_eq_some_iff.mp H
   obtain ⟨⟨t345,t346⟩,A90,H⟩:=H
   try dsimp -simprocs -eta only at H
   have A9:=Aside0.mk A90
   clear A90
   simp only [Option.some.injEq,Prod.mk.injEq] at H
   obtain ⟨rfl,rfl⟩:=H
   have p6:0 ≤ (0:Int):=(by omega)
   have q6:0 < a0.size:=(by have:(0:Int) < (a0.size:Int):=of_decide_eq_true q46_;omega)
   have hx6:∀ h:0 < a0.size,((a0[0]'h).toNat:Int) = bt a0 0:=bt_at a0 0
   clear p6
   have qi6:(0 < (a0.size:Int)) = True:=eq_true (of_decide_eq_true q46_)
   replace q6:=eq_true q6
   go_wp2_with (first | ((with_reducible refine gate_callee (f:=68) rfl ?_);refine goesL_ (some 17) rfl rfl Tryz.func68 (by kernel_rfl) rfl #[.string (a0.extract 1 a0.size),.int .i64 16] rfl q22_ ?_;(with_reducible refine (spec_l1Base.calls kj1 (a0.extract 1 a0.size) 16 t345 t346 _ A9.out).mono ?_);rintro e w' ⟨rfl,⟨nd,rfl⟩⟩;refine ⟨_,rfl,?_⟩))
   go_ret2
   exact ⟨q31_,q44_⟩
  rw [if_neg c7] at H
  have c7b0:((bt a0 0) == 36) = false:=beq_eq_false_iff_ne.mpr c7
  have c7b1:((bt a0 0) != 36) = true:=bne_iff_ne.mpr c7
  by_cases c10:(bt a0 0) = 37
  ·rw [if_pos c10] at H
   have c10b0:((bt a0 0) == 37) = true:=beq_iff_eq.mpr c10
   have c10b1:((bt a0 0) != 37) = false:=bne_eq_false_iff_eq.mpr c10
   clear c10
   by_cases c11:1 ≤ (a0.size:Int)
   rotate_left
   ·rw [if_neg c11] at H
    exact absurd H (by simp)
   rw [if_pos c11] at H
   have c11b0:=eq_true c11
   have c11b1:=decide_eq_true c11
   clear c11
   replace H:=Option.bind_eq_some_iff.mp H
   obtain ⟨⟨t347,t348⟩,A120,H⟩:=H
   try dsimp -simprocs -eta only at H
   have A12:=Aside0.mk A120
   clear A120
   simp only [Option.some.injEq,Prod.mk.injEq] at H
   obtain ⟨rfl,rfl⟩:=H
   have p6:0 ≤ (0:Int):=(by omega)
   have q6:0 < a0.size:=(by have:(0:Int) < (a0.size:Int):=of_decide_eq_true q46_;omega)
   have hx6:∀ h:0 < a0.size,((a0[0]'h).toNat:Int) = bt a0 0:=bt_at a0 0
   clear p6
   have qi6:(0 < (a0.size:Int)) = True:=eq_true (of_decide_eq_true q46_)
   replace q6:=eq_true q6
   go_wp2_with (first | ((with_reducible refine gate_callee (f:=68) rfl ?_);refine goesL_ (some 24) rfl rfl Tryz.func68 (by kernel_rfl) rfl #[.string (a0.extract 1 a0.size),.int .i64 2] rfl q22_ ?_;(with_reducible refine (spec_l1Base.calls kj1 (a0.extract 1 a0.size) 2 t347 t348 _ A12.out).mono ?_);rintro e w' ⟨rfl,⟨nd,rfl⟩⟩;refine ⟨_,rfl,?_⟩))
   go_ret2
   exact ⟨q31_,q44_⟩
  rw [if_neg c10] at H
  have c10b0:((bt a0 0) == 37) = false:=beq_eq_false_iff_ne.mpr c10
  have c10b1:((bt a0 0) != 37) = true:=bne_iff_ne.mpr c10
  replace H:=Option.bind_eq_some_iff.mp H
  obtain ⟨⟨t349,t350⟩,A130,H⟩:=H
  try dsimp -simprocs -eta only at H
  have A13:=Aside0.mk A130
  clear A130
  simp only [Option.some.injEq,Prod.mk.injEq] at H
  obtain ⟨rfl,rfl⟩:=H
  have p6:0 ≤ (0:Int):=(by omega)
  have q6:0 < a0.size:=(by have:(0:Int) < (a0.size:Int):=of_decide_eq_true q46_;omega)
  have hx6:∀ h:0 < a0.size,((a0[0]'h).toNat:Int) = bt a0 0:=bt_at a0 0
  clear p6
  have qi6:(0 < (a0.size:Int)) = True:=eq_true (of_decide_eq_true q46_)
  replace q6:=eq_true q6
  go_wp2_with (first | ((with_reducible refine gate_callee (f:=68) rfl ?_);refine goesL_ (some 28) rfl rfl Tryz.func68 (by kernel_rfl) rfl #[.string a0,.int .i64 10] rfl q22_ ?_;(with_reducible refine (spec_l1Base.calls kj1 a0 10 t349 t350 _ A13.out).mono ?_);rintro e w' ⟨rfl,⟨nd,rfl⟩⟩;refine ⟨_,rfl,?_⟩))
  go_ret2
  exact ⟨q31_,q44_⟩
def spec_l2Word.l0:Nat → ByteArray → List ByteArray → Int → Option (Int × Int × ByteArray)
 | 0,_,_,_ => none
 | k + 1,x0,x3,x4 => if x4 ≤ 17 then (if 0 ≤ x4 then (if x4 < (x3.length:Int) then (if (rdOf ByteArray.empty x3 x4).toList = x0.toList then (some (x4,0,(⟨#[]⟩:ByteArray))) else (spec_l2Word.l0 k x0 x3 (wrap64 (x4 + 1)))) else (none)) else (none)) else ((spec_ReadNum.f k x0).bind fun bt356 => (if bt356.2 = true then (some (1,bt356.1,(⟨#[]⟩:ByteArray))) else (if x0.toList = ([]:List UInt8) then (some (2,0,x0)) else (if 0 < (x0.size:Int) then (if (bt x0 0) = 35 then (if 1 ≤ (x0.size:Int) then (some (3,0,x0.extract 1 x0.size)) else (none)) else (some (2,0,x0))) else (none)))))
def spec_l2Word.f (k:Nat) (a0:ByteArray):Option (Int × Int × ByteArray):=(spec_l2Words.f).bind fun t352 => (spec_l2Word.l0 k a0 t352 4)
theorem spec_l2Word.mono_l:∀ k,(∀ y0 y1 y2,LeO (spec_l2Word.l0 k y0 y1 y2) (spec_l2Word.l0 (k + 1) y0 y1 y2))
 | 0 => fun _ _ _ r h => by simp [spec_l2Word.l0] at h
 | k + 1 => by
  have ih0:=spec_l2Word.mono_l k
  intro y0 y1 y2
  unfold spec_l2Word.l0
  repeat' first
  | (with_reducible first | exact ih0 _ _ _ | exact spec_ReadNum.mono _ _ | exact LeO.refl _ | exact LeO.none _ | refine LeO.ite ?_ ?_ | refine LeO.bind ?_ (fun _ => ?_))
  | exact ih0 _ _ _
  | exact spec_ReadNum.mono _ _
  | exact LeO.none _
  | refine LeO.ite ?_ ?_
  | refine LeO.bind ?_ (fun _ => ?_)
theorem spec_l2Word.mono:∀ a0 k,LeO (spec_l2Word.f k a0) (spec_l2Word.f (k + 1) a0):=by
 intro a0 k
 have ih0:=spec_l2Word.mono_l k
 unfold spec_l2Word.f
 repeat' first
   | (with_reducible first | exact ih0 _ _ _ | exact spec_ReadNum.mono _ _ | exact LeO.refl _ | exact LeO.none _ | refine LeO.ite ?_ ?_ | refine LeO.bind ?_ (fun _ => ?_))
   | exact ih0 _ _ _
   | exact spec_ReadNum.mono _ _
   | exact LeO.none _
   | refine LeO.ite ?_ ?_
   | refine LeO.bind ?_ (fun _ => ?_)
theorem spec_l2Word.calls (k:Nat) (a0:ByteArray) (r1:Int) (r2:Int) (r3:ByteArray) (w:World) (h:spec_l2Word.f k a0 = some (r1,r2,r3)) :
  Calls Tryz.prog 30 #[.string a0] w fun e w' => e = .returned (.agg #[.int .i64 r1,.int .i64 r2,.string r3]) ∧ Below w.heap.size w w':=by
 have hu43:=Tryz.underlying43
 have HB:=Aside0.mk (Below.refl w.heap.size w)
 have H:=h;unfold spec_l2Word.f at H
 clear h
 replace H:=Option.bind_eq_some_iff.mp H
 obtain ⟨t352,A20,H⟩:=H
 have A2:=Aside0.mk A20
 clear A20
 have H':=Aside0.mk H
 clear H
 go_enter Tryz.func30,Tryz.ntmps30
 go_wp2_with (first | ((with_reducible refine gate_dst (N:=2) rfl ?_);refine box_event ?hg (N:=2) ?hd (cs:=#[.int .i64 0,.int .i64 0,.string (⟨#[]⟩:ByteArray)]) (t:=43) ?hr ?_;(case hd => rfl);(case hg => rfl);(case hr => exact q59_);intro gb351 hg w3 hbox hb;have n0_:=Aside0.mk (below_step q24_ hb);have n1_:=Aside0.mk (hbox);have n2_:=Aside0.mk ((q11_:w.heap.size ≤ gb351));have n3_:=Aside0.mk ((q11_:w.heap.size ≤ gb351));clear HB;have HB:=n0_;have BK351:=n1_;have GW351:=n2_;have GE351:=n3_;clear n0_ n1_ n2_ n3_;clear hb hbox hg) | ((with_reducible refine gate_callee (f:=22) rfl ?_);refine goesL_ (some 7) rfl rfl Tryz.func22 (by kernel_rfl) rfl #[] rfl q22_ ?_;(with_reducible refine (spec_l2Words.calls  t352 _ A2.out).mono ?_);rintro e w4 ⟨v353,rfl,ho0,hb⟩;refine ⟨_,rfl,?_⟩;have n0_:=Aside0.mk (Kd.R_lower ho0 (below_size q16_));have n1_:=Aside0.mk (blk_below (g:=gb351) (o:=.cells #[.int .i64 0,.int .i64 0,.string (⟨#[]⟩:ByteArray)] 43 (0,0)) q30_ hb);have n2_:=Aside0.mk (below_step q16_ hb);clear BK351;clear HB;have HO354:=n0_;have BK351:=n1_;have HB:=n2_;clear n0_ n1_ n2_;(try clear hb);(try clear ho0)))
 go_loopg [4] k (fun kq v4 w' => ∃ (x4_1:Int) (x352000_1:Int) (x352001_1:Int) (x352002_1:ByteArray),v4 = .int .i64 x4_1 ∧ Aside0 (spec_l2Word.l0 kq a0 t352 x4_1 = some (r1,r2,r3)) ∧ Aside0 (kq ≤ k) ∧ Aside0 (Kd.R Kd.string 9 w' w.heap.size (fun _ => True) v353 t352) ∧ Aside0 (w'.heap[gb351]? = some (.cells #[.int .i64 x352000_1,.int .i64 x352001_1,.string x352002_1] 43 (0,0))) ∧ Aside0 (Below w.heap.size w w'))
 case atStart => exact ⟨(4),(0),(0),((⟨#[]⟩:ByteArray)),q31_,H',⟨Nat.le_refl _⟩,⟨by (with_reducible repeat (first | apply Kd.R_alloc | apply Kd.R_drewN | apply Kd.R_drew));exact HO354.out⟩,⟨q30_⟩,⟨q16_⟩⟩
 clear H'
 try clear c2
 try clear p2
 try clear c3
 obtain ⟨x4_1,x352000_1,x352001_1,x352002_1,rfl,HA,HK1,HO_3,BK351,HB⟩:=hrel
 cases gk with
 | zero => exact absurd HA.out (by simp [spec_l2Word.l0])
 | succ k1 =>
  have H:=HA.out
  clear HA
  simp only [spec_l2Word.l0] at H
  by_cases c5:x4_1 ≤ 17
  ·rw [if_pos c5] at H
   have c5b0:=decide_eq_true c5
   clear c5
   by_cases c6:0 ≤ x4_1
   rotate_left
   ·rw [if_neg c6] at H
    exact absurd H (by simp)
   rw [if_pos c6] at H
   have c6b0:=decide_eq_true c6
   clear c6
   by_cases c7:x4_1 < (t352.length:Int)
   rotate_left
   ·rw [if_neg c7] at H
    exact absurd H (by simp)
   rw [if_pos c7] at H
   have c7b0:=decide_eq_true c7
   clear c7
   by_cases c8:(rdOf ByteArray.empty t352 x4_1).toList = a0.toList
   ·rw [if_pos c8] at H
    have c8b0:((rdOf ByteArray.empty t352 x4_1).toList == a0.toList) = true:=beq_iff_eq.mpr c8
    have c8b1:((rdOf ByteArray.empty t352 x4_1).toList != a0.toList) = false:=bne_eq_false_iff_eq.mpr c8
    clear c8
    simp only [Option.some.injEq,Prod.mk.injEq] at H
    obtain ⟨rfl,rfl,rfl⟩:=H
    obtain ⟨Ao9,co9,eo9⟩:=Kd.R_slice HO_3.out
    subst eo9
    have p355:0 ≤ (x4_1:Int):=of_decide_eq_true q46_
    have q355:x4_1 < (t352.length:Int):=of_decide_eq_true q46_
    obtain ⟨ad355,e355,hx355_0⟩:=Kd.at_string (Kd.R_reads' HO_3.out).2.2 x4_1 p355 q355
    cases e355
    replace p355:=eq_true p355
    replace q355:=eq_true q355
    have hcz10_0:wr.cell? ⟨gb351,0,none⟩ = some (.int .i64 x352000_1):=bz_ BK351 0
    have hcz10_1:wr.cell? ⟨gb351,1,none⟩ = some (.int .i64 x352001_1):=bz_ BK351 1
    have hcz10_2:wr.cell? ⟨gb351,2,none⟩ = some (.string x352002_1):=bz_ BK351 2
    have hfz10_0:=blk_frozen BK351.out 0
    have hfz10_1:=blk_frozen BK351.out 1
    have hfz10_2:=blk_frozen BK351.out 2
    go_wp2
    refine bodyPost_ret (results_cell_row rfl _ _ gb351 43 #[.int .i64 x4_1,.int .i64 0,.string (⟨#[]⟩:ByteArray)] (0,0) _ rfl (by (with_reducible repeat (first | refine blk_drewN ?_ _ | refine blk_drew ?_ | refine blk_alloc ?_ _));refine blk_put (cs:=#[.int .i64 x4_1,.int .i64 0,.string x352002_1]) ?_ 2 _ rfl;(with_reducible repeat (first | refine blk_drewN ?_ _ | refine blk_drew ?_ | refine blk_alloc ?_ _));refine blk_put (cs:=#[.int .i64 x4_1,.int .i64 x352001_1,.string x352002_1]) ?_ 1 _ rfl;(with_reducible repeat (first | refine blk_drewN ?_ _ | refine blk_drew ?_ | refine blk_alloc ?_ _));refine blk_put (cs:=#[.int .i64 x352000_1,.int .i64 x352001_1,.string x352002_1]) ?_ 0 _ rfl;(with_reducible repeat (first | refine blk_drewN ?_ _ | refine blk_drew ?_ | refine blk_alloc ?_ _));exact BK351.out) Tryz.underlying43 rfl (by kernel_rfl)) rfl ?_
    exact ⟨q26_,q16_⟩
   rw [if_neg c8] at H
   have c8b0:((rdOf ByteArray.empty t352 x4_1).toList == a0.toList) = false:=beq_eq_false_iff_ne.mpr c8
   have c8b1:((rdOf ByteArray.empty t352 x4_1).toList != a0.toList) = true:=bne_iff_ne.mpr c8
   have H':=Aside0.mk H
   clear H
   obtain ⟨Ao11,co11,eo11⟩:=Kd.R_slice HO_3.out
   subst eo11
   have p355:0 ≤ (x4_1:Int):=of_decide_eq_true q46_
   have q355:x4_1 < (t352.length:Int):=of_decide_eq_true q46_
   obtain ⟨ad355,e355,hx355_0⟩:=Kd.at_string (Kd.R_reads' HO_3.out).2.2 x4_1 p355 q355
   cases e355
   replace p355:=eq_true p355
   replace q355:=eq_true q355
   go_wp2
   go_roundg k1
   case measure => have:=HK1.out;omega
   case rel => exact ⟨(wrap64 (x4_1 + 1)),(x352000_1),(x352001_1),(x352002_1),q31_,H',⟨by have:=HK1.out;omega⟩,⟨q40_⟩,⟨q30_⟩,⟨q16_⟩⟩
  rw [if_neg c5] at H
  have c5b0:=decide_eq_false c5
  clear c5
  replace H:=Option.bind_eq_some_iff.mp H
  obtain ⟨⟨t356,t357⟩,A120,H⟩:=H
  try dsimp -simprocs -eta only at H
  have A12:=Aside0.mk A120
  clear A120
  by_cases c13:t357 = true
  ·subst c13
   rewrite [if_pos rfl] at H
   simp only [Option.some.injEq,Prod.mk.injEq] at H
   obtain ⟨rfl,rfl,rfl⟩:=H
   go_wp2_with (first | ((with_reducible refine gate_callee (f:=47) rfl ?_);refine goesL_ (some 22) rfl rfl Tryz.func47 (by kernel_rfl) rfl #[.string a0] rfl q22_ ?_;(with_reducible refine (spec_ReadNum.calls k1 a0 t356 true _ A12.out).mono ?_);rintro e w' ⟨rfl,⟨nd,rfl⟩⟩;refine ⟨_,rfl,?_⟩;(try (rw [drewN_self wr];generalize hq_:World.drewN wr _ = wr;have n0_:Aside0 (Kd.R Kd.string 9 wr w.heap.size (fun _ => True) v353 t352):=⟨q25_⟩;have n1_:Aside0 (wr.heap[gb351]? = some (.cells #[.int .i64 x352000_1,.int .i64 x352001_1,.string x352002_1] 43 (0,0))):=⟨q21_⟩;have n2_:Aside0 (Below w.heap.size w wr):=⟨q6_⟩;clear HO_3 BK351 HB hq_;have HO_3:=n0_;have BK351:=n1_;have HB:=n2_;clear n0_ n1_ n2_));have hcz14_0:wr.cell? ⟨gb351,0,none⟩ = some (.int .i64 x352000_1):=(blk_cell BK351.out 0).trans rfl;have hcz14_1:wr.cell? ⟨gb351,1,none⟩ = some (.int .i64 x352001_1):=(blk_cell BK351.out 1).trans rfl;have hcz14_2:wr.cell? ⟨gb351,2,none⟩ = some (.string x352002_1):=(blk_cell BK351.out 2).trans rfl;have hfz14_0:=blk_frozen BK351.out 0;have hfz14_1:=blk_frozen BK351.out 1;have hfz14_2:=blk_frozen BK351.out 2))
   refine bodyPost_ret (results_cell_row rfl _ _ gb351 43 #[.int .i64 1,.int .i64 t356,.string (⟨#[]⟩:ByteArray)] (0,0) _ rfl (by (with_reducible repeat (first | refine blk_drewN ?_ _ | refine blk_drew ?_ | refine blk_alloc ?_ _));refine blk_put (cs:=#[.int .i64 1,.int .i64 t356,.string x352002_1]) ?_ 2 _ rfl;(with_reducible repeat (first | refine blk_drewN ?_ _ | refine blk_drew ?_ | refine blk_alloc ?_ _));refine blk_put (cs:=#[.int .i64 1,.int .i64 x352001_1,.string x352002_1]) ?_ 1 _ rfl;(with_reducible repeat (first | refine blk_drewN ?_ _ | refine blk_drew ?_ | refine blk_alloc ?_ _));refine blk_put (cs:=#[.int .i64 x352000_1,.int .i64 x352001_1,.string x352002_1]) ?_ 0 _ rfl;(with_reducible repeat (first | refine blk_drewN ?_ _ | refine blk_drew ?_ | refine blk_alloc ?_ _));exact BK351.out) Tryz.underlying43 rfl (by kernel_rfl)) rfl ?_
   exact ⟨q26_,q16_⟩
  replace c13:=Bool.eq_false_iff.mpr c13
  subst c13
  rewrite [if_neg (show ¬ (false = true) by decide)] at H
  by_cases c15:a0.toList = ([]:List UInt8)
  ·rw [if_pos c15] at H
   have c15b0:(a0.toList == ([]:List UInt8)) = true:=beq_iff_eq.mpr c15
   have c15b1:(a0.toList != ([]:List UInt8)) = false:=bne_eq_false_iff_eq.mpr c15
   have c15b9:a0.toList.isEmpty = true:=(isEmpty_beq _).trans c15b0
   clear c15
   simp only [Option.some.injEq,Prod.mk.injEq] at H
   obtain ⟨rfl,rfl,rfl⟩:=H
   go_wp2_with (first | ((with_reducible refine gate_callee (f:=47) rfl ?_);refine goesL_ (some 22) rfl rfl Tryz.func47 (by kernel_rfl) rfl #[.string a0] rfl q22_ ?_;(with_reducible refine (spec_ReadNum.calls k1 a0 t356 false _ A12.out).mono ?_);rintro e w' ⟨rfl,⟨nd,rfl⟩⟩;refine ⟨_,rfl,?_⟩;(try (rw [drewN_self wr];generalize hq_:World.drewN wr _ = wr;have n0_:Aside0 (Kd.R Kd.string 9 wr w.heap.size (fun _ => True) v353 t352):=⟨q25_⟩;have n1_:Aside0 (wr.heap[gb351]? = some (.cells #[.int .i64 x352000_1,.int .i64 x352001_1,.string x352002_1] 43 (0,0))):=⟨q21_⟩;have n2_:Aside0 (Below w.heap.size w wr):=⟨q6_⟩;clear HO_3 BK351 HB hq_;have HO_3:=n0_;have BK351:=n1_;have HB:=n2_;clear n0_ n1_ n2_));have hcz16_0:wr.cell? ⟨gb351,0,none⟩ = some (.int .i64 x352000_1):=(blk_cell BK351.out 0).trans rfl;have hcz16_1:wr.cell? ⟨gb351,1,none⟩ = some (.int .i64 x352001_1):=(blk_cell BK351.out 1).trans rfl;have hcz16_2:wr.cell? ⟨gb351,2,none⟩ = some (.string x352002_1):=(blk_cell BK351.out 2).trans rfl;have hfz16_0:=blk_frozen BK351.out 0;have hfz16_1:=blk_frozen BK351.out 1;have hfz16_2:=blk_frozen BK351.out 2))
   refine bodyPost_ret (results_cell_row rfl _ _ gb351 43 #[.int .i64 2,.int .i64 0,.string a0] (0,0) _ rfl q2_ Tryz.underlying43 rfl (by kernel_rfl)) rfl ?_
   exact ⟨q26_,q16_⟩
  rw [if_neg c15] at H
  have c15b0:(a0.toList == ([]:List UInt8)) = false:=beq_eq_false_iff_ne.mpr c15
  have c15b1:(a0.toList != ([]:List UInt8)) = true:=bne_iff_ne.mpr c15
  have c15b9:a0.toList.isEmpty = false:=(isEmpty_beq _).trans c15b0
  by_cases c17:0 < (a0.size:Int)
  rotate_left
  ·rw [if_neg c17] at H
   exact absurd H (by simp)
  rw [if_pos c17] at H
  have c17b0:=decide_eq_true c17
  have c17b1:decide (0 < a0.size) = true:=decide_eq_true (by omega)
  clear c17
  by_cases c19:(bt a0 0) = 35
  ·rw [if_pos c19] at H
   have c19b0:((bt a0 0) == 35) = true:=beq_iff_eq.mpr c19
   have c19b1:((bt a0 0) != 35) = false:=bne_eq_false_iff_eq.mpr c19
   clear c19
   by_cases c20:1 ≤ (a0.size:Int)
   rotate_left
   ·rw [if_neg c20] at H
    exact absurd H (by simp)
   rw [if_pos c20] at H
   have c20b0:=eq_true c20
   have c20b1:=decide_eq_true c20
   clear c20
   simp only [Option.some.injEq,Prod.mk.injEq] at H
   obtain ⟨rfl,rfl,rfl⟩:=H
   go_wp2_with (first | ((with_reducible refine gate_callee (f:=47) rfl ?_);refine goesL_ (some 22) rfl rfl Tryz.func47 (by kernel_rfl) rfl #[.string a0] rfl q22_ ?_;(with_reducible refine (spec_ReadNum.calls k1 a0 t356 false _ A12.out).mono ?_);rintro e w' ⟨rfl,⟨nd,rfl⟩⟩;refine ⟨_,rfl,?_⟩;(try (rw [drewN_self wr];generalize hq_:World.drewN wr _ = wr;have n0_:Aside0 (Kd.R Kd.string 9 wr w.heap.size (fun _ => True) v353 t352):=⟨q25_⟩;have n1_:Aside0 (wr.heap[gb351]? = some (.cells #[.int .i64 x352000_1,.int .i64 x352001_1,.string x352002_1] 43 (0,0))):=⟨q21_⟩;have n2_:Aside0 (Below w.heap.size w wr):=⟨q6_⟩;clear HO_3 BK351 HB hq_;have HO_3:=n0_;have BK351:=n1_;have HB:=n2_;clear n0_ n1_ n2_));have p18:0 ≤ (0:Int):=(by omega);have q18:0 < a0.size:=(by have:(0:Int) < (a0.size:Int):=of_decide_eq_true q46_;omega);have hx18:∀ h:0 < a0.size,((a0[0]'h).toNat:Int) = bt a0 0:=bt_at a0 0;clear p18;have qi18:(0 < (a0.size:Int)) = True:=eq_true (of_decide_eq_true q46_);replace q18:=eq_true q18;have hcz21_0:wr.cell? ⟨gb351,0,none⟩ = some (.int .i64 x352000_1):=(blk_cell BK351.out 0).trans rfl;have hcz21_1:wr.cell? ⟨gb351,1,none⟩ = some (.int .i64 x352001_1):=(blk_cell BK351.out 1).trans rfl;have hcz21_2:wr.cell? ⟨gb351,2,none⟩ = some (.string x352002_1):=(blk_cell BK351.out 2).trans rfl;have hfz21_0:=blk_frozen BK351.out 0;have hfz21_1:=blk_frozen BK351.out 1;have hfz21_2:=blk_frozen BK351.out 2))
   refine bodyPost_ret (results_cell_row rfl _ _ gb351 43 #[.int .i64 3,.int .i64 0,.string (a0.extract 1 a0.size)] (0,0) _ rfl (by (with_reducible repeat (first | refine blk_drewN ?_ _ | refine blk_drew ?_ | refine blk_alloc ?_ _));refine blk_put (cs:=#[.int .i64 3,.int .i64 0,.string x352002_1]) ?_ 2 _ rfl;(with_reducible repeat (first | refine blk_drewN ?_ _ | refine blk_drew ?_ | refine blk_alloc ?_ _));refine blk_put (cs:=#[.int .i64 3,.int .i64 x352001_1,.string x352002_1]) ?_ 1 _ rfl;(with_reducible repeat (first | refine blk_drewN ?_ _ | refine blk_drew ?_ | refine blk_alloc ?_ _));refine blk_put (cs:=#[.int .i64 x352000_1,.int .i64 x352001_1,.string x352002_1]) ?_ 0 _ rfl;(with_reducible repeat (first | refine blk_drewN ?_ _ | refine blk_drew ?_ | refine blk_alloc ?_ _));exact BK351.out) Tryz.underlying43 rfl (by kernel_rfl)) rfl ?_
   exact ⟨q26_,q16_⟩
  rw [if_neg c19] at H
  have c19b0:((bt a0 0) == 35) = false:=beq_eq_false_iff_ne.mpr c19
  have c19b1:((bt a0 0) != 35) = true:=bne_iff_ne.mpr c19
  simp only [Option.some.injEq,Prod.mk.injEq] at H
  obtain ⟨rfl,rfl,rfl⟩:=H
  go_wp2_with (first | ((with_reducible refine gate_callee (f:=47) rfl ?_);refine goesL_ (some 22) rfl rfl Tryz.func47 (by kernel_rfl) rfl #[.string a0] rfl q22_ ?_;(with_reducible refine (spec_ReadNum.calls k1 a0 t356 false _ A12.out).mono ?_);rintro e w' ⟨rfl,⟨nd,rfl⟩⟩;refine ⟨_,rfl,?_⟩;(try (rw [drewN_self wr];generalize hq_:World.drewN wr _ = wr;have n0_:Aside0 (Kd.R Kd.string 9 wr w.heap.size (fun _ => True) v353 t352):=⟨q25_⟩;have n1_:Aside0 (wr.heap[gb351]? = some (.cells #[.int .i64 x352000_1,.int .i64 x352001_1,.string x352002_1] 43 (0,0))):=⟨q21_⟩;have n2_:Aside0 (Below w.heap.size w wr):=⟨q6_⟩;clear HO_3 BK351 HB hq_;have HO_3:=n0_;have BK351:=n1_;have HB:=n2_;clear n0_ n1_ n2_));have p18:0 ≤ (0:Int):=(by omega);have q18:0 < a0.size:=(by have:(0:Int) < (a0.size:Int):=of_decide_eq_true q46_;omega);have hx18:∀ h:0 < a0.size,((a0[0]'h).toNat:Int) = bt a0 0:=bt_at a0 0;clear p18;have qi18:(0 < (a0.size:Int)) = True:=eq_true (of_decide_eq_true q46_);replace q18:=eq_true q18;have hcz22_0:wr.cell? ⟨gb351,0,none⟩ = some (.int .i64 x352000_1):=(blk_cell BK351.out 0).trans rfl;have hcz22_1:wr.cell? ⟨gb351,1,none⟩ = some (.int .i64 x352001_1):=(blk_cell BK351.out 1).trans rfl;have hcz22_2:wr.cell? ⟨gb351,2,none⟩ = some (.string x352002_1):=(blk_cell BK351.out 2).trans rfl;have hfz22_0:=blk_frozen BK351.out 0;have hfz22_1:=blk_frozen BK351.out 1;have hfz22_2:=blk_frozen BK351.out 2))
  refine bodyPost_ret (results_cell_row rfl _ _ gb351 43 #[.int .i64 2,.int .i64 0,.string a0] (0,0) _ rfl q2_ Tryz.underlying43 rfl (by kernel_rfl)) rfl ?_
  exact ⟨q26_,q16_⟩
mutual
def spec_ReadExpr.l0:Nat → ByteArray → List (S43) → ByteArray → Bool → Option ((List (S43)) × Bool)
 | 0,_,_,_,_ => none
 | k + 1,x0,x4,x5,x6 => if x6 = true then (spec_ReadExpr.j1 k x0 x4 x5 (decide ((x4.length:Int) ≤ 30))) else (spec_ReadExpr.j1 k x0 x4 x5 false)
def spec_ReadExpr.j1:Nat → ByteArray → List (S43) → ByteArray → Bool → Option ((List (S43)) × Bool)
 | 0,_,_,_,_ => none
 | k + 1,x0,x4,x5,x15 => if x15 = true then ((spec_l1Cut.f k x5 32).bind fun bt361 => ((spec_l2Word.f k bt361.1).bind fun bt364 => (if x4.length < 4398046511104 then (spec_ReadExpr.l0 k x0 (x4 ++ [(⟨bt364.1,bt364.2.1,bt364.2.2⟩:S43)]) bt361.2.1 bt361.2.2) else (none)))) else (if x0.toList = ([]:List UInt8) then (some (([]:List (S43)),false)) else ((spec_ExprText.f k x4).bind fun t370 => (if t370.toList = x0.toList then (some (x4,true)) else (some (([]:List (S43)),false)))))
end
def spec_ReadExpr.f (k:Nat) (a0:ByteArray):Option ((List (S43)) × Bool):=spec_ReadExpr.l0 k a0 (([]:List (S43))) a0 true
theorem spec_ReadExpr.mono_l:∀ k,(∀ y0 y1 y2 y3,LeO (spec_ReadExpr.l0 k y0 y1 y2 y3) (spec_ReadExpr.l0 (k + 1) y0 y1 y2 y3)) ∧ (∀ y0 y1 y2 y3,LeO (spec_ReadExpr.j1 k y0 y1 y2 y3) (spec_ReadExpr.j1 (k + 1) y0 y1 y2 y3))
 | 0 => ⟨fun _ _ _ _ r h => by simp [spec_ReadExpr.l0] at h,fun _ _ _ _ r h => by simp [spec_ReadExpr.j1] at h⟩
 | k + 1 => by
  obtain ⟨ih0,ih1⟩:=spec_ReadExpr.mono_l k
  refine ⟨?_,?_⟩
  ·intro y0 y1 y2 y3
   unfold spec_ReadExpr.l0
   repeat' first
   | (with_reducible first | exact ih0 _ _ _ _ | exact ih1 _ _ _ _ | exact spec_ExprText.mono _ _ | exact spec_l1Cut.mono _ _ _ | exact spec_l2Word.mono _ _ | exact LeO.refl _ | exact LeO.none _ | refine LeO.ite ?_ ?_ | refine LeO.bind ?_ (fun _ => ?_))
   | exact ih0 _ _ _ _
   | exact ih1 _ _ _ _
   | exact spec_ExprText.mono _ _
   | exact spec_l1Cut.mono _ _ _
   | exact spec_l2Word.mono _ _
   | exact LeO.none _
   | refine LeO.ite ?_ ?_
   | refine LeO.bind ?_ (fun _ => ?_)
  intro y0 y1 y2 y3
  unfold spec_ReadExpr.j1
  repeat' first
  | (with_reducible first | exact ih0 _ _ _ _ | exact ih1 _ _ _ _ | exact spec_ExprText.mono _ _ | exact spec_l1Cut.mono _ _ _ | exact spec_l2Word.mono _ _ | exact LeO.refl _ | exact LeO.none _ | refine LeO.ite ?_ ?_ | refine LeO.bind ?_ (fun _ => ?_))
  | exact ih0 _ _ _ _
  | exact ih1 _ _ _ _
  | exact spec_ExprText.mono _ _
  | exact spec_l1Cut.mono _ _ _
  | exact spec_l2Word.mono _ _
  | exact LeO.none _
  | refine LeO.ite ?_ ?_
  | refine LeO.bind ?_ (fun _ => ?_)
theorem spec_ReadExpr.mono:∀ a0 k,LeO (spec_ReadExpr.f k a0) (spec_ReadExpr.f (k + 1) a0):=by
 intro a0 k
 obtain ⟨ih0,ih1⟩:=spec_ReadExpr.mono_l k
 unfold spec_ReadExpr.f
 repeat' first
   | (with_reducible first | exact ih0 _ _ _ _ | exact ih1 _ _ _ _ | exact spec_ExprText.mono _ _ | exact spec_l1Cut.mono _ _ _ | exact spec_l2Word.mono _ _ | exact LeO.refl _ | exact LeO.none _ | refine LeO.ite ?_ ?_ | refine LeO.bind ?_ (fun _ => ?_))
   | exact ih0 _ _ _ _
   | exact ih1 _ _ _ _
   | exact spec_ExprText.mono _ _
   | exact spec_l1Cut.mono _ _ _
   | exact spec_l2Word.mono _ _
   | exact LeO.none _
   | refine LeO.ite ?_ ?_
   | refine LeO.bind ?_ (fun _ => ?_)
theorem spec_ReadExpr.calls (k:Nat) (a0:ByteArray) (r1:List (S43)) (r2:Bool) (w:World) (h:spec_ReadExpr.f k a0 = some (r1,r2)) :
  Calls Tryz.prog 13 #[.string a0] w fun e w' => ∃ v0_:Value,e = .returned (.tuple #[v0_,.bool r2]) ∧ Kd.R k43 43 w' w.heap.size (fun _ => True) v0_ r1 ∧ Below w.heap.size w w':=by
 have HB:=Aside0.mk (Below.refl w.heap.size w)
 have H:=h;unfold spec_ReadExpr.f at H
 clear h
 obtain ⟨y358,hy358⟩:∃ y_:List (S43),y_ = (([]:List (S43))):=⟨_,rfl⟩
 replace H:(spec_ReadExpr.l0 k a0 y358 a0 true) = some (r1,r2):=by first | (rw [hy358];exact H) | exact H
 have Ny358:=Aside0.mk hy358
 clear hy358
 have H':=Aside0.mk H
 clear H
 go_enter Tryz.func13,Tryz.ntmps13
 go_wp2_with (first | ((with_reducible refine gate_dst (N:=8) rfl ?_);(try (refine gate_guard (by rfl) ?_;dsimp only));refine Kd.R_lit k43 _ 43 ?hg (N:=8) ?hd (xs:=([]:List (S43))) (inner:=[]) (ok:=fun _ => True) (okp:=fun _ => True) ?hr ?hp (fun _ hk => hk) trivial (Below.refl _ _) (Nat.le_refl _) (by simp) ?_;(case hd => rfl);(case hg => rfl);(case hr => exact q59_);(case hp => exact (Reps.none _ _));intro v359 w2 ho3 hb hg_ hnew_;clear hg_ hnew_;(first | rw [← Ny358.out] at ho3 | (simp only [Int.reduceToNat] at ho3;rw [← Ny358.out] at ho3));have n0_:=Aside0.mk (Kd.R_lower ho3 (below_size q24_));have n1_:=Aside0.mk (below_step q24_ hb);clear HB;have HO360:=n0_;have HB:=n1_;clear n0_ n1_;clear hb ho3))
 go_loopg [4,5,6] k (fun kq v4 v5 v6 w' => ∃ (x4_1:List (S43)) (x5_1:ByteArray) (x6_1:Bool),v5 = .string x5_1 ∧ v6 = .bool x6_1 ∧ Aside0 (spec_ReadExpr.l0 kq a0 x4_1 x5_1 x6_1 = some (r1,r2)) ∧ Aside0 (kq ≤ k) ∧ Aside0 (Kd.R k43 43 w' w.heap.size (fun _ => True) v4 x4_1) ∧ Aside0 (Below w.heap.size w w'))
 case atStart => exact ⟨(y358),(a0),(true),q31_,q31_,H',⟨Nat.le_refl _⟩,⟨by (with_reducible repeat (first | apply Kd.R_alloc | apply Kd.R_drewN | apply Kd.R_drew));exact HO360.out⟩,⟨q24_⟩⟩
 clear H'
 try clear c1
 try clear p2
 obtain ⟨x4_1,x5_1,x6_1,rfl,rfl,HA,HK1,HO_4,HB⟩:=hrel
 cases gk with
 | zero => exact absurd HA.out (by simp [spec_ReadExpr.l0])
 | succ k1 =>
  have H:=HA.out
  clear HA
  simp only [spec_ReadExpr.l0] at H
  have HC4:=Aside0.mk H
  clear H
  go_upto_region 4 with (fail)
  go_cut [15] (fun v15 wc => ∃ (kq:Nat) (x15_3:Bool),v15 = .bool x15_3 ∧ Aside0 (spec_ReadExpr.j1 kq a0 x4_1 x5_1 x15_3 = some (r1,r2)) ∧ Aside0 (kq ≤ k1) ∧ Aside0 (Kd.R k43 43 wc w.heap.size (fun _ => True) u4 x4_1) ∧ Aside0 (Below w.heap.size w wc))
  case first =>
   have H:=HC4.out
   clear HC4
   by_cases c5:x6_1 = true
   ·subst c5
    rewrite [if_pos rfl] at H
    have H':=Aside0.mk H
    clear H
    obtain ⟨Ao6,co6,eo6⟩:=Kd.R_slice HO_4.out
    subst eo6
    go_wp2
    go_meet
    case rel => exact ⟨_,(decide ((x4_1.length:Int) ≤ 30)),q31_,H',⟨q45_⟩,⟨q42_⟩,⟨q24_⟩⟩
   replace c5:=Bool.eq_false_iff.mpr c5
   subst c5
   rewrite [if_neg (show ¬ (false = true) by decide)] at H
   have H':=Aside0.mk H
   clear H
   go_wp2
   go_meet
   case rel => exact ⟨_,(false),q31_,H',⟨q45_⟩,⟨q42_⟩,⟨q24_⟩⟩
  clear HC4
  try clear c1
  try clear p2 p2
  try clear c5
  try clear p6
  obtain ⟨kq,x15_3,rfl,HA,HJ3,HO_4,HB⟩:=hcut
  cases kq with
  | zero => exact absurd HA.out (by simp [spec_ReadExpr.j1])
  | succ kj3 =>
   have H:=HA.out
   clear HA
   simp only [spec_ReadExpr.j1] at H
   by_cases c7:x15_3 = true
   ·subst c7
    rewrite [if_pos rfl] at H
    replace H:=Option.bind_eq_some_iff.mp H
    obtain ⟨⟨t361,t362,t363⟩,A80,H⟩:=H
    try dsimp -simprocs -eta only at H
    have A8:=Aside0.mk A80
    clear A80
    replace H:=Option.bind_eq_some_iff.mp H
    obtain ⟨⟨t364,t365,t366⟩,A90,H⟩:=H
    try dsimp -simprocs -eta only at H
    have A9:=Aside0.mk A90
    clear A90
    by_cases c10:x4_1.length < 4398046511104
    rotate_left
    ·rw [if_neg c10] at H
     exact absurd H (by simp)
    rw [if_pos c10] at H
    have LMc10:=Aside0.mk c10
    clear c10
    obtain ⟨y367,hy367⟩:∃ y_:List (S43),y_ = (x4_1 ++ [(⟨t364,t365,t366⟩:S43)]):=⟨_,rfl⟩
    replace H:(spec_ReadExpr.l0 kj3 a0 y367 t362 t363) = some (r1,r2):=by first | (rw [hy367];exact H) | exact H
    have Ny367:=Aside0.mk hy367
    clear hy367
    have H':=Aside0.mk H
    clear H
    go_wp2_with (first | ((with_reducible refine gate_callee (f:=29) rfl ?_);refine goesL_ (some 18) rfl rfl Tryz.func29 (by kernel_rfl) rfl #[.string x5_1,.int .u8 32] rfl q22_ ?_;(with_reducible refine (spec_l1Cut.calls kj3 x5_1 32 t361 t362 t363 _ A8.out).mono ?_);rintro e w' ⟨rfl,⟨nd,rfl⟩⟩;refine ⟨_,rfl,?_⟩) | ((with_reducible refine gate_callee (f:=30) rfl ?_);refine goesL_ (some 24) rfl rfl Tryz.func30 (by kernel_rfl) rfl #[.string t361] rfl q22_ ?_;(with_reducible refine (spec_l2Word.calls kj3 t361 t364 t365 t366 _ A9.out).mono ?_);rintro e w11 ⟨rfl,hb⟩;refine ⟨_,rfl,?_⟩;have n0_:=Aside0.mk (Kd.R_below q42_ hb);have n1_:=Aside0.mk (below_step q24_ hb);clear HO_4;clear HB;have HO_4:=n0_;have HB:=n1_;clear n0_ n1_;(try clear hb)) | ((with_reducible refine gate_builtin (b:=.append) (xs:=#[.tmp 22,.tmp 25]) rfl ?_);(try (refine gate_guard (by rfl) ?_;dsimp only));at_builtin;refine Kd.R_append k43 (w0:=w) w.heap.size rfl (.tmp 22) (.tmp 25) 24 43 (.agg #[(.int .i64 0),(.int .i64 0),(.string ⟨#[]⟩)]) 32 rfl Tryz.underlying24 info43 rfl (by decide) (by omega) u4 x4_1 (⟨t364,t365,t366⟩:S43) [.int .i64 t364,.int .i64 t365,.string t366] (fun _ => True) (fun _ => False) rfl rfl ?aP (fun _ hk => hk.elim) ?aF ?aO ?aB ?aS ?aL ?_;(case aP => exact k43_mkM _ _ _ (⟨t364,t365,t366⟩:S43));(case aB => exact q24_);(case aF => exact (fun _ _ => trivial));(case aO => exact q42_);(case aS => exact (below_size q24_));(case aL => have:=LMc10.out;omega);intro v368 w12 ho hb hg hat;rw [← Ny367.out] at ho;have n0_:=Aside0.mk (hb);have n1_:=Aside0.mk (ho);clear HB;clear HO_4;have HB:=n0_;have HO369:=n1_;clear n0_ n1_;clear ho hb hg hat))
    go_roundg kj3
    case measure => have:=HK1.out;have:=HJ3.out;omega
    case rel => exact ⟨(y367),(t362),(t363),q31_,q31_,H',⟨by have:=HK1.out;have:=HJ3.out;omega⟩,⟨by (with_reducible repeat (first | apply Kd.R_alloc | apply Kd.R_drewN | apply Kd.R_drew));exact HO369.out⟩,⟨q24_⟩⟩
   replace c7:=Bool.eq_false_iff.mpr c7
   subst c7
   rewrite [if_neg (show ¬ (false = true) by decide)] at H
   by_cases c13:a0.toList = ([]:List UInt8)
   ·rw [if_pos c13] at H
    have c13b0:(a0.toList == ([]:List UInt8)) = true:=beq_iff_eq.mpr c13
    have c13b1:(a0.toList != ([]:List UInt8)) = false:=bne_eq_false_iff_eq.mpr c13
    have c13b9:a0.toList.isEmpty = true:=(isEmpty_beq _).trans c13b0
    clear c13
    simp only [Option.some.injEq,Prod.mk.injEq] at H
    obtain ⟨rfl,rfl⟩:=H
    go_wp2
    go_ret2
    exact ⟨_,q26_,q20_,q24_⟩
   rw [if_neg c13] at H
   have c13b0:(a0.toList == ([]:List UInt8)) = false:=beq_eq_false_iff_ne.mpr c13
   have c13b1:(a0.toList != ([]:List UInt8)) = true:=bne_iff_ne.mpr c13
   have c13b9:a0.toList.isEmpty = false:=(isEmpty_beq _).trans c13b0
   replace H:=Option.bind_eq_some_iff.mp H
   obtain ⟨t370,A140,H⟩:=H
   have A14:=Aside0.mk A140
   clear A140
   by_cases c15:t370.toList = a0.toList
   ·rw [if_pos c15] at H
    have c15b0:(t370.toList == a0.toList) = true:=beq_iff_eq.mpr c15
    have c15b1:(t370.toList != a0.toList) = false:=bne_eq_false_iff_eq.mpr c15
    clear c15
    simp only [Option.some.injEq,Prod.mk.injEq] at H
    obtain ⟨rfl,rfl⟩:=H
    obtain ⟨Ao16,co16,eo16⟩:=Kd.R_slice HO_4.out
    subst eo16
    go_wp2_with (first | (go_at_call 8;(with_reducible refine (spec_ExprText.calls kj3 _ _ x4_1 t370 _ ?side1 ?side2 A14.out).mono ?_);(case side1 => exact q55_);(case side2 => exact (Kd.R_reads' HO_4.out).2.1);rintro e w17 ⟨rfl,hb⟩;have n0_:=Aside0.mk (Kd.R_below q42_ hb);have n1_:=Aside0.mk (below_step q24_ hb);clear HO_4;clear HB;have HO_4:=n0_;have HB:=n1_;clear n0_ n1_;(try clear hb)))
    go_ret2
    exact ⟨_,q26_,q42_,q24_⟩
   rw [if_neg c15] at H
   have c15b0:(t370.toList == a0.toList) = false:=beq_eq_false_iff_ne.mpr c15
   have c15b1:(t370.toList != a0.toList) = true:=bne_iff_ne.mpr c15
   simp only [Option.some.injEq,Prod.mk.injEq] at H
   obtain ⟨rfl,rfl⟩:=H
   obtain ⟨Ao18,co18,eo18⟩:=Kd.R_slice HO_4.out
   subst eo18
   go_wp2_with (first | (go_at_call 8;(with_reducible refine (spec_ExprText.calls kj3 _ _ x4_1 t370 _ ?side1 ?side2 A14.out).mono ?_);(case side1 => exact q55_);(case side2 => exact (Kd.R_reads' HO_4.out).2.1);rintro e w19 ⟨rfl,hb⟩;have n0_:=Aside0.mk (Kd.R_below q42_ hb);have n1_:=Aside0.mk (below_step q24_ hb);clear HO_4;clear HB;have HO_4:=n0_;have HB:=n1_;clear n0_ n1_;(try clear hb)))
   go_ret2
   exact ⟨_,q26_,q20_,q24_⟩
end Go.Proofs.YtabbdfchibjndaaGreatDoor.QFnExprTexts
