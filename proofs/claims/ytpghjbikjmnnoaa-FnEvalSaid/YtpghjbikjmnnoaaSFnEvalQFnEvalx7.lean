/- The machine's side of a law,written by a program of this session for this claim. -/
import Derived.Test.YtpghjbikjmnnoaaSFnEvalQq
import Derived.Test.YtpghjbikjmnnoaaSFnEvalQFnEvalx0
import Derived.Test.YtpghjbikjmnnoaaSFnEvalQFnEvalx5
import Derived.Test.YtpghjbikjmnnoaaSFnEvalQFnEvalx6
namespace Go.Proofs.Ytpghjbikjmnnoaa.QFnEval
open Go.Proofs.Ytpghjbikjmnnoaa.Qq
open Go.RowKit Go.Proofs.Ytpghjbikjmnnoaa.LibX Go.Proofs.Ytpghjbikjmnnoaa.LibG Go.Proofs.Ytpghjbikjmnnoaa.LibCv Go.Proofs.Ytpghjbikjmnnoaa.LibNm Go.Proofs.Ytpghjbikjmnnoaa.LibIx Go.Proofs.YtpghjbikjmnnoaaW.PrintWords Go.Proofs.YtpghjbikjmnnoaaW.PrintLast Go.Proofs.YtpghjbikjmnnoaaW.PrintMore
attribute [local go_sem] max2_int min2_int max_two min_two max_three min_three max_four min_four   -- for this text's walks alone
set_option maxHeartbeats 8000000
set_option maxRecDepth 100000
set_option linter.unusedVariables false
set_option linter.unusedSimpArgs false
def impl_EvalExpr.f (k:Nat) (l0:List (S45)) (l1:List (S33)):Option (Int × Int):=(impl_ExprOk.f k l0).bind fun t263 => (if t263 = true then (if (l1.length:Int) > 200 then (some (0,1)) else ((impl_evaluated.f k l0 l1).bind fun bt264 => (some (bt264.1,bt264.2)))) else (some (0,1)))
theorem impl_EvalExpr.mono:∀ a0 a1 k,LeO (impl_EvalExpr.f k a0 a1) (impl_EvalExpr.f (k + 1) a0 a1):=by
 intro a0 a1 k
 unfold impl_EvalExpr.f
 repeat' first
   | (with_reducible first | exact impl_ExprOk.mono _ _ | exact impl_evaluated.mono _ _ _ | exact LeO.refl _ | exact LeO.none _ | refine LeO.ite ?_ ?_ | refine LeO.bind ?_ (fun _ => ?_))
   | exact impl_ExprOk.mono _ _
   | exact impl_evaluated.mono _ _ _
   | exact LeO.none _
   | refine LeO.ite ?_ ?_
   | refine LeO.bind ?_ (fun _ => ?_)
theorem impl_EvalExpr.calls (k:Nat) (A0:Option Addr) (c0:Nat) (l0:List (S45)) (A1:Option Addr) (c1:Nat) (l1:List (S33)) (r1:Int) (r2:Int) (w:World) (hr0:Kd.C k45 w A0 l0.length l0) (hc0:l0.length ≤ c0) (hr1:Kd.C k33 w A1 l1.length l1) (hc1:l1.length ≤ c1) (h:impl_EvalExpr.f k l0 l1 = some (r1,r2)) :
  Calls Try.prog 6 #[.slice A0 l0.length c0,.slice A1 l1.length c1] w fun e w' => e = .returned (.tuple #[.int .i64 r1,.int .i64 r2]) ∧ Below w.heap.size w w':=by
 have HR0:=Aside0.mk hr0
 have HC0:=Aside0.mk hc0
 clear hr0 hc0
 have HR1:=Aside0.mk hr1
 have HC1:=Aside0.mk hc1
 clear hr1 hc1
 have HB:=Aside0.mk (Below.refl w.heap.size w)
 have H:=h;unfold impl_EvalExpr.f at H
 clear h
 replace H:=Option.bind_eq_some_iff.mp H
 obtain ⟨t263,A30,H⟩:=H
 have A3:=Aside0.mk A30
 clear A30
 by_cases c4:t263 = true
 ·subst c4
  rewrite [if_pos rfl] at H
  by_cases c5:(l1.length:Int) > 200
  ·rw [if_pos c5] at H
   have c5b0:decide (200 < (l1.length:Int)) = true:=decide_eq_true c5
   have c5b1:decide (200 < l1.length) = true:=decide_eq_true (by omega)
   clear c5
   simp only [Option.some.injEq,Prod.mk.injEq] at H
   obtain ⟨rfl,rfl⟩:=H
   go_enter Try.func6,Try.ntmps6
   go_wp2_with (first | ((with_reducible refine gate_callee (f:=12) rfl ?_);refine goesL_ (some 7) rfl rfl Try.func12 (by kernel_rfl) rfl #[.slice A0 l0.length c0] rfl q18_ ?_;(with_reducible refine (impl_ExprOk.calls k _ _ l0 true _ ?side1 ?side2 A3.out).mono ?_);(case side1 => exact q58_);(case side2 => exact HC0.out);rintro e w6 ⟨rfl,hb⟩;refine ⟨_,rfl,?_⟩;replace HB:=Aside0.mk (below_step q20_ hb);(try clear hb)))
   go_ret2
   exact ⟨q21_,q20_⟩
  rw [if_neg c5] at H
  have c5b0:decide (200 < (l1.length:Int)) = false:=decide_eq_false c5
  have c5b1:decide (200 < l1.length) = false:=decide_eq_false (by omega)
  clear c5
  replace H:=Option.bind_eq_some_iff.mp H
  obtain ⟨⟨t264,t265⟩,A70,H⟩:=H
  try dsimp -simprocs -eta only at H
  have A7:=Aside0.mk A70
  clear A70
  simp only [Option.some.injEq,Prod.mk.injEq] at H
  obtain ⟨rfl,rfl⟩:=H
  go_enter Try.func6,Try.ntmps6
  go_wp2_with (first | ((with_reducible refine gate_callee (f:=12) rfl ?_);refine goesL_ (some 7) rfl rfl Try.func12 (by kernel_rfl) rfl #[.slice A0 l0.length c0] rfl q18_ ?_;(with_reducible refine (impl_ExprOk.calls k _ _ l0 true _ ?side1 ?side2 A3.out).mono ?_);(case side1 => exact q58_);(case side2 => exact HC0.out);rintro e w8 ⟨rfl,hb⟩;refine ⟨_,rfl,?_⟩;replace HB:=Aside0.mk (below_step q20_ hb);(try clear hb)) | ((with_reducible refine gate_callee (f:=13) rfl ?_);refine goesL_ (some 16) rfl rfl Try.func13 (by kernel_rfl) rfl #[.slice A0 l0.length c0,.slice A1 l1.length c1] rfl q18_ ?_;(with_reducible refine (impl_evaluated.calls k _ _ l0 _ _ l1 t264 t265 _ ?side1 ?side2 ?side3 ?side4 A7.out).mono ?_);(case side1 => exact q49_);(case side2 => exact HC0.out);(case side3 => exact q50_);(case side4 => exact HC1.out);rintro e w9 ⟨rfl,hb⟩;refine ⟨_,rfl,?_⟩;replace HB:=Aside0.mk (below_step q20_ hb);(try clear hb)))
  go_ret2
  exact ⟨q21_,q20_⟩
 replace c4:=Bool.eq_false_iff.mpr c4
 subst c4
 rewrite [if_neg (show ¬ (false = true) by decide)] at H
 simp only [Option.some.injEq,Prod.mk.injEq] at H
 obtain ⟨rfl,rfl⟩:=H
 go_enter Try.func6,Try.ntmps6
 go_wp2_with (first | ((with_reducible refine gate_callee (f:=12) rfl ?_);refine goesL_ (some 7) rfl rfl Try.func12 (by kernel_rfl) rfl #[.slice A0 l0.length c0] rfl q18_ ?_;(with_reducible refine (impl_ExprOk.calls k _ _ l0 false _ ?side1 ?side2 A3.out).mono ?_);(case side1 => exact q58_);(case side2 => exact HC0.out);rintro e w10 ⟨rfl,hb⟩;refine ⟨_,rfl,?_⟩;replace HB:=Aside0.mk (below_step q20_ hb);(try clear hb)))
 go_ret2
 exact ⟨q21_,q20_⟩
def spec_l1In.f (a0:Int) (a1:Int) (a2:Int):Option (Bool):=if a0 ≥ a1 then (some (decide (a0 ≤ a2))) else (some false)
theorem spec_l1In.calls (a0:Int) (a1:Int) (a2:Int) (r:Bool) (w:World) (h:spec_l1In.f a0 a1 a2 = some r) :
  Calls Try.prog 41 #[.int .i64 a0,.int .i64 a1,.int .i64 a2] w fun e w' => e = .returned (.bool r) ∧ Drawn0 w w':=by
 have H:=h;unfold spec_l1In.f at H
 clear h
 by_cases c4:a0 ≥ a1
 ·rw [if_pos c4] at H
  have c4b0:decide (a1 ≤ a0) = true:=decide_eq_true c4
  clear c4
  obtain rfl:=Option.some.inj H
  go_enter Try.func41,Try.ntmps41
  go_wp2
  go_ret
  exact ⟨q25_,q40_⟩
 rw [if_neg c4] at H
 have c4b0:decide (a1 ≤ a0) = false:=decide_eq_false c4
 clear c4
 obtain rfl:=Option.some.inj H
 go_enter Try.func41,Try.ntmps41
 go_wp2
 go_ret
 exact ⟨q25_,q40_⟩
def spec_l2Takes.f (a0:Int):Option (Int):=(spec_l1In.f a0 1 3).bind fun t266 => (if t266 = true then (some 0) else ((spec_l1In.f a0 4 7).bind fun t267 => (if t267 = true then (some 1) else ((spec_l1In.f a0 8 17).bind fun t268 => (if t268 = true then (some 2) else (some (-1)))))))
theorem spec_l2Takes.calls (a0:Int) (r:Int) (w:World) (h:spec_l2Takes.f a0 = some r) :
  Calls Try.prog 28 #[.int .i64 a0] w fun e w' => e = .returned (.int .i64 r) ∧ Drawn0 w w':=by
 have H:=h;unfold spec_l2Takes.f at H
 clear h
 replace H:=Option.bind_eq_some_iff.mp H
 obtain ⟨t266,A20,H⟩:=H
 have A2:=Aside0.mk A20
 clear A20
 by_cases c3:t266 = true
 ·subst c3
  rewrite [if_pos rfl] at H
  obtain rfl:=Option.some.inj H
  go_enter Try.func28,Try.ntmps28
  go_wp2_with (first | ((with_reducible refine gate_callee (f:=41) rfl ?_);refine goesL_ (some 5) rfl rfl Try.func41 (by kernel_rfl) rfl #[.int .i64 a0,.int .i64 1,.int .i64 3] rfl q18_ ?_;(with_reducible refine (spec_l1In.calls a0 1 3 true _ A2.out).mono ?_);rintro e w' ⟨rfl,⟨nd,rfl⟩⟩;refine ⟨_,rfl,?_⟩))
  go_ret
  exact ⟨q25_,q40_⟩
 replace c3:=Bool.eq_false_iff.mpr c3
 subst c3
 rewrite [if_neg (show ¬ (false = true) by decide)] at H
 replace H:=Option.bind_eq_some_iff.mp H
 obtain ⟨t267,A40,H⟩:=H
 have A4:=Aside0.mk A40
 clear A40
 by_cases c5:t267 = true
 ·subst c5
  rewrite [if_pos rfl] at H
  obtain rfl:=Option.some.inj H
  go_enter Try.func28,Try.ntmps28
  go_wp2_with (first | ((with_reducible refine gate_callee (f:=41) rfl ?_);refine goesL_ (some 5) rfl rfl Try.func41 (by kernel_rfl) rfl #[.int .i64 a0,.int .i64 1,.int .i64 3] rfl q18_ ?_;(with_reducible refine (spec_l1In.calls a0 1 3 false _ A2.out).mono ?_);rintro e w' ⟨rfl,⟨nd,rfl⟩⟩;refine ⟨_,rfl,?_⟩) | ((with_reducible refine gate_callee (f:=41) rfl ?_);refine goesL_ (some 8) rfl rfl Try.func41 (by kernel_rfl) rfl #[.int .i64 a0,.int .i64 4,.int .i64 7] rfl q18_ ?_;(with_reducible refine (spec_l1In.calls a0 4 7 true _ A4.out).mono ?_);rintro e w' ⟨rfl,⟨nd,rfl⟩⟩;refine ⟨_,rfl,?_⟩))
  go_ret
  exact ⟨q25_,q40_⟩
 replace c5:=Bool.eq_false_iff.mpr c5
 subst c5
 rewrite [if_neg (show ¬ (false = true) by decide)] at H
 replace H:=Option.bind_eq_some_iff.mp H
 obtain ⟨t268,A60,H⟩:=H
 have A6:=Aside0.mk A60
 clear A60
 by_cases c7:t268 = true
 ·subst c7
  rewrite [if_pos rfl] at H
  obtain rfl:=Option.some.inj H
  go_enter Try.func28,Try.ntmps28
  go_wp2_with (first | ((with_reducible refine gate_callee (f:=41) rfl ?_);refine goesL_ (some 5) rfl rfl Try.func41 (by kernel_rfl) rfl #[.int .i64 a0,.int .i64 1,.int .i64 3] rfl q18_ ?_;(with_reducible refine (spec_l1In.calls a0 1 3 false _ A2.out).mono ?_);rintro e w' ⟨rfl,⟨nd,rfl⟩⟩;refine ⟨_,rfl,?_⟩) | ((with_reducible refine gate_callee (f:=41) rfl ?_);refine goesL_ (some 8) rfl rfl Try.func41 (by kernel_rfl) rfl #[.int .i64 a0,.int .i64 4,.int .i64 7] rfl q18_ ?_;(with_reducible refine (spec_l1In.calls a0 4 7 false _ A4.out).mono ?_);rintro e w' ⟨rfl,⟨nd,rfl⟩⟩;refine ⟨_,rfl,?_⟩) | ((with_reducible refine gate_callee (f:=41) rfl ?_);refine goesL_ (some 11) rfl rfl Try.func41 (by kernel_rfl) rfl #[.int .i64 a0,.int .i64 8,.int .i64 17] rfl q18_ ?_;(with_reducible refine (spec_l1In.calls a0 8 17 true _ A6.out).mono ?_);rintro e w' ⟨rfl,⟨nd,rfl⟩⟩;refine ⟨_,rfl,?_⟩))
  go_ret
  exact ⟨q25_,q40_⟩
 replace c7:=Bool.eq_false_iff.mpr c7
 subst c7
 rewrite [if_neg (show ¬ (false = true) by decide)] at H
 obtain rfl:=Option.some.inj H
 go_enter Try.func28,Try.ntmps28
 go_wp2_with (first | ((with_reducible refine gate_callee (f:=41) rfl ?_);refine goesL_ (some 5) rfl rfl Try.func41 (by kernel_rfl) rfl #[.int .i64 a0,.int .i64 1,.int .i64 3] rfl q18_ ?_;(with_reducible refine (spec_l1In.calls a0 1 3 false _ A2.out).mono ?_);rintro e w' ⟨rfl,⟨nd,rfl⟩⟩;refine ⟨_,rfl,?_⟩) | ((with_reducible refine gate_callee (f:=41) rfl ?_);refine goesL_ (some 8) rfl rfl Try.func41 (by kernel_rfl) rfl #[.int .i64 a0,.int .i64 4,.int .i64 7] rfl q18_ ?_;(with_reducible refine (spec_l1In.calls a0 4 7 false _ A4.out).mono ?_);rintro e w' ⟨rfl,⟨nd,rfl⟩⟩;refine ⟨_,rfl,?_⟩) | ((with_reducible refine gate_callee (f:=41) rfl ?_);refine goesL_ (some 11) rfl rfl Try.func41 (by kernel_rfl) rfl #[.int .i64 a0,.int .i64 8,.int .i64 17] rfl q18_ ?_;(with_reducible refine (spec_l1In.calls a0 8 17 false _ A6.out).mono ?_);rintro e w' ⟨rfl,⟨nd,rfl⟩⟩;refine ⟨_,rfl,?_⟩))
 go_ret
 exact ⟨q25_,q40_⟩
def spec_l1Letter.f (a0:Int):Option (Bool):=if a0 ≥ 97 then (if a0 ≤ 122 then (some true) else (if a0 = 95 then (some true) else (some (a0 == 46)))) else (if a0 = 95 then (some true) else (some (a0 == 46)))
theorem spec_l1Letter.calls (a0:Int) (r:Bool) (w:World) (h:spec_l1Letter.f a0 = some r) :
  Calls Try.prog 53 #[.int .u8 a0] w fun e w' => e = .returned (.bool r) ∧ Drawn0 w w':=by
 have H:=h;unfold spec_l1Letter.f at H
 clear h
 by_cases c2:a0 ≥ 97
 ·rw [if_pos c2] at H
  have c2b0:decide (97 ≤ a0) = true:=decide_eq_true c2
  clear c2
  by_cases c3:a0 ≤ 122
  ·rw [if_pos c3] at H
   have c3b0:=decide_eq_true c3
   clear c3
   obtain rfl:=Option.some.inj H
   go_enter Try.func53,Try.ntmps53
   go_wp2
   go_ret
   exact ⟨q25_,q40_⟩
  rw [if_neg c3] at H
  have c3b0:=decide_eq_false c3
  clear c3
  by_cases c4:a0 = 95
  ·rw [if_pos c4] at H
   have c4b0:(a0 == 95) = true:=beq_iff_eq.mpr c4
   have c4b1:(a0 != 95) = false:=bne_eq_false_iff_eq.mpr c4
   clear c4
   obtain rfl:=Option.some.inj H
   go_enter Try.func53,Try.ntmps53
   go_wp2
   go_ret
   exact ⟨q25_,q40_⟩
  rw [if_neg c4] at H
  have c4b0:(a0 == 95) = false:=beq_eq_false_iff_ne.mpr c4
  have c4b1:(a0 != 95) = true:=bne_iff_ne.mpr c4
  obtain rfl:=Option.some.inj H
  go_enter Try.func53,Try.ntmps53
  go_wp2
  go_ret
  exact ⟨q25_,q40_⟩
 rw [if_neg c2] at H
 have c2b0:decide (97 ≤ a0) = false:=decide_eq_false c2
 clear c2
 by_cases c5:a0 = 95
 ·rw [if_pos c5] at H
  have c5b0:(a0 == 95) = true:=beq_iff_eq.mpr c5
  have c5b1:(a0 != 95) = false:=bne_eq_false_iff_eq.mpr c5
  clear c5
  obtain rfl:=Option.some.inj H
  go_enter Try.func53,Try.ntmps53
  go_wp2
  go_ret
  exact ⟨q25_,q40_⟩
 rw [if_neg c5] at H
 have c5b0:(a0 == 95) = false:=beq_eq_false_iff_ne.mpr c5
 have c5b1:(a0 != 95) = true:=bne_iff_ne.mpr c5
 obtain rfl:=Option.some.inj H
 go_enter Try.func53,Try.ntmps53
 go_wp2
 go_ret
 exact ⟨q25_,q40_⟩
mutual
def spec_NameOk.j0:Nat → ByteArray → Bool → Option (Bool)
 | 0,_,_ => none
 | k + 1,x0,x17 => if x17 = true then (some false) else (spec_NameOk.l0 k x0 0)
def spec_NameOk.l0:Nat → ByteArray → Int → Option (Bool)
 | 0,_,_ => none
 | k + 1,x0,x3 => if x3 < (x0.size:Int) then (if 0 ≤ x3 then ((spec_l1Letter.f (bt x0 x3)).bind fun t270 => (if t270 = true then (spec_NameOk.j2 k x0 x3 false) else (if (bt x0 x3) ≥ 48 then (spec_NameOk.j2 k x0 x3 (!(decide ((bt x0 x3) ≤ 57)))) else (spec_NameOk.j2 k x0 x3 (!false))))) else (none)) else (some true)
def spec_NameOk.j2:Nat → ByteArray → Int → Bool → Option (Bool)
 | 0,_,_,_ => none
 | k + 1,x0,x3,x41 => if x41 = true then (some false) else (spec_NameOk.l0 k x0 (wrap64 (x3 + 1)))
end
def spec_NameOk.f (k:Nat) (a0:ByteArray):Option (Bool):=if (a0.size:Int) < 1 then (spec_NameOk.j0 k a0 true) else (if (a0.size:Int) > 16 then (spec_NameOk.j0 k a0 true) else (if 0 < (a0.size:Int) then ((spec_l1Letter.f (bt a0 0)).bind fun t269 => (spec_NameOk.j0 k a0 (!t269))) else (none)))
theorem spec_NameOk.mono_l:∀ k,(∀ y0 y1,LeO (spec_NameOk.j0 k y0 y1) (spec_NameOk.j0 (k + 1) y0 y1)) ∧ (∀ y0 y1,LeO (spec_NameOk.l0 k y0 y1) (spec_NameOk.l0 (k + 1) y0 y1)) ∧ (∀ y0 y1 y2,LeO (spec_NameOk.j2 k y0 y1 y2) (spec_NameOk.j2 (k + 1) y0 y1 y2))
 | 0 => ⟨fun _ _ r h => by simp [spec_NameOk.j0] at h,fun _ _ r h => by simp [spec_NameOk.l0] at h,fun _ _ _ r h => by simp [spec_NameOk.j2] at h⟩
 | k + 1 => by
  obtain ⟨ih0,ih1,ih2⟩:=spec_NameOk.mono_l k
  refine ⟨?_,?_,?_⟩
  ·intro y0 y1
   unfold spec_NameOk.j0
   repeat' first
   | (with_reducible first | exact ih0 _ _ | exact ih1 _ _ | exact ih2 _ _ _ | exact LeO.refl _ | exact LeO.none _ | refine LeO.ite ?_ ?_ | refine LeO.bind ?_ (fun _ => ?_))
   | exact ih0 _ _
   | exact ih1 _ _
   | exact ih2 _ _ _
   | exact LeO.none _
   | refine LeO.ite ?_ ?_
   | refine LeO.bind ?_ (fun _ => ?_)
  ·intro y0 y1
   unfold spec_NameOk.l0
   repeat' first
   | (with_reducible first | exact ih0 _ _ | exact ih1 _ _ | exact ih2 _ _ _ | exact LeO.refl _ | exact LeO.none _ | refine LeO.ite ?_ ?_ | refine LeO.bind ?_ (fun _ => ?_))
   | exact ih0 _ _
   | exact ih1 _ _
   | exact ih2 _ _ _
   | exact LeO.none _
   | refine LeO.ite ?_ ?_
   | refine LeO.bind ?_ (fun _ => ?_)
  intro y0 y1 y2
  unfold spec_NameOk.j2
  repeat' first
  | (with_reducible first | exact ih0 _ _ | exact ih1 _ _ | exact ih2 _ _ _ | exact LeO.refl _ | exact LeO.none _ | refine LeO.ite ?_ ?_ | refine LeO.bind ?_ (fun _ => ?_))
  | exact ih0 _ _
  | exact ih1 _ _
  | exact ih2 _ _ _
  | exact LeO.none _
  | refine LeO.ite ?_ ?_
  | refine LeO.bind ?_ (fun _ => ?_)
theorem spec_NameOk.mono:∀ a0 k,LeO (spec_NameOk.f k a0) (spec_NameOk.f (k + 1) a0):=by
 intro a0 k
 obtain ⟨ih0,ih1,ih2⟩:=spec_NameOk.mono_l k
 unfold spec_NameOk.f
 repeat' first
   | (with_reducible first | exact ih0 _ _ | exact ih1 _ _ | exact ih2 _ _ _ | exact LeO.refl _ | exact LeO.none _ | refine LeO.ite ?_ ?_ | refine LeO.bind ?_ (fun _ => ?_))
   | exact ih0 _ _
   | exact ih1 _ _
   | exact ih2 _ _ _
   | exact LeO.none _
   | refine LeO.ite ?_ ?_
   | refine LeO.bind ?_ (fun _ => ?_)
theorem spec_NameOk.calls (k:Nat) (a0:ByteArray) (r:Bool) (w:World) (h:spec_NameOk.f k a0 = some r) :
  Calls Try.prog 42 #[.string a0] w fun e w' => e = .returned (.bool r) ∧ Drawn0 w w':=by
 have H:=h;unfold spec_NameOk.f at H
 clear h
 have HC2:=Aside0.mk H
 clear H
 go_enter Try.func42,Try.ntmps42
 go_upto_region 1 with (fail)
 go_cut [17] (fun v17 wc => ∃ (kq:Nat) (x17_1:Bool),v17 = .bool x17_1 ∧ Aside0 (spec_NameOk.j0 kq a0 x17_1 = some r) ∧ Aside0 (kq ≤ k) ∧ Drawn0 w wc)
 case first =>
  have H:=HC2.out
  clear HC2
  by_cases c3:(a0.size:Int) < 1
  ·rw [if_pos c3] at H
   have c3b0:=decide_eq_true c3
   have c3b1:decide (a0.size < 1) = true:=decide_eq_true (by omega)
   clear c3
   (first | rw [c3b0] | (simp only [i64_w,i32_w];rw [c3b0]) | rw [c3b9] | skip)
   have H':=Aside0.mk H
   clear H
   go_wp2
   go_meet
   case rel => exact ⟨_,(true),q25_,H',⟨q44_⟩,q40_⟩
  rw [if_neg c3] at H
  have c3b0:=decide_eq_false c3
  have c3b1:decide (a0.size < 1) = false:=decide_eq_false (by omega)
  clear c3
  (first | rw [c3b0] | (simp only [i64_w,i32_w];rw [c3b0]) | rw [c3b9] | skip)
  by_cases c4:(a0.size:Int) > 16
  ·rw [if_pos c4] at H
   have c4b0:decide (16 < (a0.size:Int)) = true:=decide_eq_true c4
   have c4b1:decide (16 < a0.size) = true:=decide_eq_true (by omega)
   clear c4
   have H':=Aside0.mk H
   clear H
   go_wp2
   go_meet
   case rel => exact ⟨_,(true),q25_,H',⟨q44_⟩,q40_⟩
  rw [if_neg c4] at H
  have c4b0:decide (16 < (a0.size:Int)) = false:=decide_eq_false c4
  have c4b1:decide (16 < a0.size) = false:=decide_eq_false (by omega)
  clear c4
  by_cases c5:0 < (a0.size:Int)
  rotate_left
  ·rw [if_neg c5] at H
   exact absurd H (by simp)
  rw [if_pos c5] at H
  have c5b0:=decide_eq_true c5
  have c5b1:decide (0 < a0.size) = true:=decide_eq_true (by omega)
  clear c5
  replace H:=Option.bind_eq_some_iff.mp H
  obtain ⟨t269,A70,H⟩:=H
  have A7:=Aside0.mk A70
  clear A70
  have H':=Aside0.mk H
  clear H
  have p6:0 ≤ (0:Int):=(by omega)
  have q6:0 < a0.size:=(by have:(0:Int) < (a0.size:Int):=of_decide_eq_true q42_;omega)
  have hx6:∀ h:0 < a0.size,((a0[0]'h).toNat:Int) = bt a0 0:=bt_at a0 0
  clear p6
  have qi6:(0 < (a0.size:Int)) = True:=eq_true (of_decide_eq_true q42_)
  replace q6:=eq_true q6
  go_wp2_with (first | (go_at_call 53;(with_reducible refine (spec_l1Letter.calls (bt a0 0) t269 _ A7.out).mono ?_);rintro e w' ⟨rfl,⟨nd,rfl⟩⟩))
  go_meet
  case rel => exact ⟨_,(!t269),q25_,H',⟨q44_⟩,q40_⟩
 clear HC2
 try clear p2
 try clear c3
 try clear c3b0
 try clear c3b1
 try clear c4
 try clear c4b0
 try clear c4b1
 try clear c5
 try clear c5b0
 try clear c5b1
 try clear p6 p6
 try clear q6 q6
 try clear hx6
 try clear qi6
 obtain ⟨kq,x17_1,rfl,HA,HJ1,⟨mc1,rfl⟩⟩:=hcut
 cases kq with
 | zero => exact absurd HA.out (by simp [spec_NameOk.j0])
 | succ kj1 =>
  have H:=HA.out
  clear HA
  simp only [spec_NameOk.j0] at H
  by_cases c8:x17_1 = true
  ·subst c8
   rewrite [if_pos rfl] at H
   obtain rfl:=Option.some.inj H
   go_wp2
   go_ret
   exact ⟨q25_,q40_⟩
  replace c8:=Bool.eq_false_iff.mpr c8
  subst c8
  rewrite [if_neg (show ¬ (false = true) by decide)] at H
  have H':=Aside0.mk H
  clear H
  go_wp2
  go_loopg [3] kj1 (fun kq v3 w' => ∃ (x3_2:Int),v3 = .int .i64 x3_2 ∧ Aside0 (spec_NameOk.l0 kq a0 x3_2 = some r) ∧ Aside0 (kq ≤ kj1) ∧ Drawn0 w w')
  case atStart => exact ⟨(0),q25_,H',⟨Nat.le_refl _⟩,q40_⟩
  clear H'
  try clear c1
  try clear p2 p2
  try clear c3
  try clear c3b0
  try clear c3b1
  try clear c4
  try clear c4b0
  try clear c4b1
  try clear c5
  try clear c5b0
  try clear c5b1
  try clear p6 p6
  try clear q6 q6
  try clear hx6
  try clear qi6
  try clear c8
  obtain ⟨x3_2,rfl,HA,HK2,⟨m2,rfl⟩⟩:=hrel
  cases gk with
  | zero => exact absurd HA.out (by simp [spec_NameOk.l0])
  | succ k2 =>
   have H:=HA.out
   clear HA
   simp only [spec_NameOk.l0] at H
   by_cases c9:x3_2 < (a0.size:Int)
   ·rw [if_pos c9] at H
    have c9b0:=decide_eq_true c9
    clear c9
    have HC10:=Aside0.mk H
    clear H
    go_upto_region 6 with (fail)
    go_cut [41] (fun v41 wc => ∃ (kq:Nat) (x41_9:Bool),v41 = .bool x41_9 ∧ Aside0 (spec_NameOk.j2 kq a0 x3_2 x41_9 = some r) ∧ Aside0 (kq ≤ k2) ∧ Drawn0 w wc)
    case first =>
     have H:=HC10.out
     clear HC10
     by_cases c11:0 ≤ x3_2
     rotate_left
     ·rw [if_neg c11] at H
      exact absurd H (by simp)
     rw [if_pos c11] at H
     have c11b0:=decide_eq_true c11
     clear c11
     (first | rw [c11b0] | (simp only [i64_w,i32_w];rw [c11b0]) | rw [c11b9] | skip)
     replace H:=Option.bind_eq_some_iff.mp H
     obtain ⟨t270,A130,H⟩:=H
     have A13:=Aside0.mk A130
     clear A130
     by_cases c14:t270 = true
     ·subst c14
      rewrite [if_pos rfl] at H
      have H':=Aside0.mk H
      clear H
      have p12:0 ≤ (x3_2:Int):=of_decide_eq_true q42_
      have q12:x3_2 < (a0.size:Int):=of_decide_eq_true q42_
      have hx12:=bt_at a0 x3_2
      replace p12:=eq_true p12
      replace q12:=eq_true q12
      go_wp2_with (first | ((with_reducible refine gate_callee (f:=53) rfl ?_);refine goesL_ (some 27) rfl rfl Try.func53 (by kernel_rfl) rfl #[.int .u8 (bt a0 x3_2)] rfl q18_ ?_;(with_reducible refine (spec_l1Letter.calls (bt a0 x3_2) true _ A13.out).mono ?_);rintro e w' ⟨rfl,⟨nd,rfl⟩⟩;refine ⟨_,rfl,?_⟩))
      go_meet
      case rel => exact ⟨_,(false),q25_,H',⟨q39_⟩,q40_⟩
     replace c14:=Bool.eq_false_iff.mpr c14
     subst c14
     rewrite [if_neg (show ¬ (false = true) by decide)] at H
     by_cases c16:(bt a0 x3_2) ≥ 48
     ·rw [if_pos c16] at H
      have c16b0:decide (48 ≤ (bt a0 x3_2)) = true:=decide_eq_true c16
      clear c16
      have H':=Aside0.mk H
      clear H
      have p12:0 ≤ (x3_2:Int):=of_decide_eq_true q42_
      have q12:x3_2 < (a0.size:Int):=of_decide_eq_true q42_
      have hx12:=bt_at a0 x3_2
      replace p12:=eq_true p12
      replace q12:=eq_true q12
      go_wp2_with (first | ((with_reducible refine gate_callee (f:=53) rfl ?_);refine goesL_ (some 27) rfl rfl Try.func53 (by kernel_rfl) rfl #[.int .u8 (bt a0 x3_2)] rfl q18_ ?_;(with_reducible refine (spec_l1Letter.calls (bt a0 x3_2) false _ A13.out).mono ?_);rintro e w' ⟨rfl,⟨nd,rfl⟩⟩;refine ⟨_,rfl,?_⟩;have p15:0 ≤ (x3_2:Int):=of_decide_eq_true q42_;have q15:x3_2 < (a0.size:Int):=of_decide_eq_true q42_;have hx15:=bt_at a0 x3_2;replace p15:=eq_true p15;replace q15:=eq_true q15;have p17:0 ≤ (x3_2:Int):=of_decide_eq_true q42_;have q17:x3_2 < (a0.size:Int):=of_decide_eq_true q42_;have hx17:=bt_at a0 x3_2;replace p17:=eq_true p17;replace q17:=eq_true q17))
      go_meet
      case rel => exact ⟨_,(!(decide ((bt a0 x3_2) ≤ 57))),q25_,H',⟨q39_⟩,q40_⟩
     rw [if_neg c16] at H
     have c16b0:decide (48 ≤ (bt a0 x3_2)) = false:=decide_eq_false c16
     clear c16
     have H':=Aside0.mk H
     clear H
     have p12:0 ≤ (x3_2:Int):=of_decide_eq_true q42_
     have q12:x3_2 < (a0.size:Int):=of_decide_eq_true q42_
     have hx12:=bt_at a0 x3_2
     replace p12:=eq_true p12
     replace q12:=eq_true q12
     go_wp2_with (first | ((with_reducible refine gate_callee (f:=53) rfl ?_);refine goesL_ (some 27) rfl rfl Try.func53 (by kernel_rfl) rfl #[.int .u8 (bt a0 x3_2)] rfl q18_ ?_;(with_reducible refine (spec_l1Letter.calls (bt a0 x3_2) false _ A13.out).mono ?_);rintro e w' ⟨rfl,⟨nd,rfl⟩⟩;refine ⟨_,rfl,?_⟩;have p15:0 ≤ (x3_2:Int):=of_decide_eq_true q42_;have q15:x3_2 < (a0.size:Int):=of_decide_eq_true q42_;have hx15:=bt_at a0 x3_2;replace p15:=eq_true p15;replace q15:=eq_true q15))
     go_meet
     case rel => exact ⟨_,(!false),q25_,H',⟨q39_⟩,q40_⟩
    clear HC10
    try clear c1
    try clear p1
    try clear q1
    try clear hx1
    try clear p2 p2
    try clear c3
    try clear c3b0
    try clear c3b1
    try clear c4
    try clear c4b0
    try clear c4b1
    try clear c5
    try clear c5b0
    try clear c5b1
    try clear p6 p6
    try clear q6 q6
    try clear hx6
    try clear qi6
    try clear c8
    try clear c9
    try clear c9b0
    try clear c11
    try clear c11b0
    try clear p12 p12
    try clear q12 q12
    try clear hx12
    try clear c14
    try clear p15 p15
    try clear q15 q15
    try clear hx15
    try clear c16
    try clear c16b0
    try clear p17 p17
    try clear q17 q17
    try clear hx17
    obtain ⟨kq,x41_9,rfl,HA,HJ9,⟨mc9,rfl⟩⟩:=hcut
    cases kq with
    | zero => exact absurd HA.out (by simp [spec_NameOk.j2])
    | succ kj9 =>
     have H:=HA.out
     clear HA
     simp only [spec_NameOk.j2] at H
     by_cases c18:x41_9 = true
     ·subst c18
      rewrite [if_pos rfl] at H
      obtain rfl:=Option.some.inj H
      go_wp2
      go_ret
      exact ⟨q25_,q40_⟩
     replace c18:=Bool.eq_false_iff.mpr c18
     subst c18
     rewrite [if_neg (show ¬ (false = true) by decide)] at H
     have H':=Aside0.mk H
     clear H
     go_wp2
     go_roundg kj9
     case measure => have:=HJ1.out;have:=HK2.out;have:=HJ9.out;omega
     case rel => exact ⟨(wrap64 (x3_2 + 1)),q25_,H',⟨by have:=HJ1.out;have:=HK2.out;have:=HJ9.out;omega⟩,q40_⟩
   rw [if_neg c9] at H
   have c9b0:=decide_eq_false c9
   clear c9
   obtain rfl:=Option.some.inj H
   go_wp2
   go_ret
   exact ⟨q25_,q40_⟩
def spec_l2Node.j0:Nat → Bool → Int → Int → ByteArray → Option (Bool)
 | 0,_,_,_,_ => none
 | k + 1,x15,x272000,x272001,x272002 => if x15 = true then (if x272001 = 0 then ((spec_NameOk.f k x272002).bind fun t273 => (some t273)) else (some false)) else (if x272001 = 0 then (if x272002.toList = ([]:List UInt8) then ((spec_l2Takes.f x272000).bind fun t274 => (some (decide (t274 > 0)))) else (some false)) else (some false))
def spec_l2Node.f (k:Nat) (a0_0:Int) (a0_1:Int) (a0_2:ByteArray):Option (Bool):=if a0_0 = 1 then ((spec_l1In.f a0_1 0 65535).bind fun t272 => (if t272 = true then (some (a0_2.toList == ([]:List UInt8))) else (some false))) else (if a0_0 = 2 then (spec_l2Node.j0 k (a0_0 == 2) a0_0 a0_1 a0_2) else (spec_l2Node.j0 k (a0_0 == 3) a0_0 a0_1 a0_2))
theorem spec_l2Node.mono_l:∀ k,(∀ y0 y1 y2 y3,LeO (spec_l2Node.j0 k y0 y1 y2 y3) (spec_l2Node.j0 (k + 1) y0 y1 y2 y3))
 | 0 => fun _ _ _ _ r h => by simp [spec_l2Node.j0] at h
 | k + 1 => by
  have ih0:=spec_l2Node.mono_l k
  intro y0 y1 y2 y3
  unfold spec_l2Node.j0
  repeat' first
  | (with_reducible first | exact ih0 _ _ _ _ | exact spec_NameOk.mono _ _ | exact LeO.refl _ | exact LeO.none _ | refine LeO.ite ?_ ?_ | refine LeO.bind ?_ (fun _ => ?_))
  | exact ih0 _ _ _ _
  | exact spec_NameOk.mono _ _
  | exact LeO.none _
  | refine LeO.ite ?_ ?_
  | refine LeO.bind ?_ (fun _ => ?_)
theorem spec_l2Node.mono:∀ a0 a1 a2 k,LeO (spec_l2Node.f k a0 a1 a2) (spec_l2Node.f (k + 1) a0 a1 a2):=by
 intro a0 a1 a2 k
 have ih0:=spec_l2Node.mono_l k
 unfold spec_l2Node.f
 repeat' first
   | (with_reducible first | exact ih0 _ _ _ _ | exact spec_NameOk.mono _ _ | exact LeO.refl _ | exact LeO.none _ | refine LeO.ite ?_ ?_ | refine LeO.bind ?_ (fun _ => ?_))
   | exact ih0 _ _ _ _
   | exact spec_NameOk.mono _ _
   | exact LeO.none _
   | refine LeO.ite ?_ ?_
   | refine LeO.bind ?_ (fun _ => ?_)
theorem spec_l2Node.calls (k:Nat) (a0_0:Int) (a0_1:Int) (a0_2:ByteArray) (r:Bool) (w:World) (h:spec_l2Node.f k a0_0 a0_1 a0_2 = some r) :
  Calls Try.prog 27 #[.agg #[.int .i64 a0_0,.int .i64 a0_1,.string a0_2]] w fun e w' => e = .returned (.bool r) ∧ Below w.heap.size w w':=by
 have hu45:=Try.underlying45
 have HB:=Aside0.mk (Below.refl w.heap.size w)
 have H:=h;unfold spec_l2Node.f at H
 clear h
 by_cases c2:a0_0 = 1
 ·rw [if_pos c2] at H
  have c2b0:(a0_0 == 1) = true:=beq_iff_eq.mpr c2
  have c2b1:(a0_0 != 1) = false:=bne_eq_false_iff_eq.mpr c2
  clear c2
  replace H:=Option.bind_eq_some_iff.mp H
  obtain ⟨t272,A30,H⟩:=H
  have A3:=Aside0.mk A30
  clear A30
  by_cases c4:t272 = true
  ·subst c4
   rewrite [if_pos rfl] at H
   obtain rfl:=Option.some.inj H
   go_enter Try.func27,Try.ntmps27
   go_wp2_with (first | ((with_reducible refine gate_dst (N:=1) rfl ?_);refine box_event ?hg (N:=1) ?hd (cs:=#[.int .i64 a0_0,.int .i64 a0_1,.string a0_2]) (t:=45) ?hr ?_;(case hd => rfl);(case hg => rfl);(case hr => exact q62_);intro gb271 hg w5 hbox hb;have n0_:=Aside0.mk (below_step q20_ hb);have n1_:=Aside0.mk (hbox);have n2_:=Aside0.mk ((q10_:w.heap.size ≤ gb271));have n3_:=Aside0.mk ((q10_:w.heap.size ≤ gb271));clear HB;have HB:=n0_;have BK271:=n1_;have GW271:=n2_;have GE271:=n3_;clear n0_ n1_ n2_ n3_;clear hb hbox hg;have hcz6_0:w5.cell? ⟨gb271,0,none⟩ = some (.int .i64 a0_0):=(blk_cell BK271.out 0).trans rfl;have hcz6_1:w5.cell? ⟨gb271,1,none⟩ = some (.int .i64 a0_1):=(blk_cell BK271.out 1).trans rfl;have hcz6_2:w5.cell? ⟨gb271,2,none⟩ = some (.string a0_2):=(blk_cell BK271.out 2).trans rfl;have hfz6_0:=blk_frozen BK271.out 0;have hfz6_1:=blk_frozen BK271.out 1;have hfz6_2:=blk_frozen BK271.out 2) | ((with_reducible refine gate_callee (f:=41) rfl ?_);refine goesL_ (some 9) rfl rfl Try.func41 (by kernel_rfl) rfl #[.int .i64 a0_1,.int .i64 0,.int .i64 65535] rfl q18_ ?_;(with_reducible refine (spec_l1In.calls a0_1 0 65535 true _ A3.out).mono ?_);rintro e w' ⟨rfl,⟨nd,rfl⟩⟩;refine ⟨_,rfl,?_⟩))
   go_ret
   exact ⟨q21_,q14_⟩
  replace c4:=Bool.eq_false_iff.mpr c4
  subst c4
  rewrite [if_neg (show ¬ (false = true) by decide)] at H
  obtain rfl:=Option.some.inj H
  go_enter Try.func27,Try.ntmps27
  go_wp2_with (first | ((with_reducible refine gate_dst (N:=1) rfl ?_);refine box_event ?hg (N:=1) ?hd (cs:=#[.int .i64 a0_0,.int .i64 a0_1,.string a0_2]) (t:=45) ?hr ?_;(case hd => rfl);(case hg => rfl);(case hr => exact q62_);intro gb271 hg w7 hbox hb;have n0_:=Aside0.mk (below_step q20_ hb);have n1_:=Aside0.mk (hbox);have n2_:=Aside0.mk ((q10_:w.heap.size ≤ gb271));have n3_:=Aside0.mk ((q10_:w.heap.size ≤ gb271));clear HB;have HB:=n0_;have BK271:=n1_;have GW271:=n2_;have GE271:=n3_;clear n0_ n1_ n2_ n3_;clear hb hbox hg;have hcz8_0:w7.cell? ⟨gb271,0,none⟩ = some (.int .i64 a0_0):=(blk_cell BK271.out 0).trans rfl;have hcz8_1:w7.cell? ⟨gb271,1,none⟩ = some (.int .i64 a0_1):=(blk_cell BK271.out 1).trans rfl;have hcz8_2:w7.cell? ⟨gb271,2,none⟩ = some (.string a0_2):=(blk_cell BK271.out 2).trans rfl;have hfz8_0:=blk_frozen BK271.out 0;have hfz8_1:=blk_frozen BK271.out 1;have hfz8_2:=blk_frozen BK271.out 2) | ((with_reducible refine gate_callee (f:=41) rfl ?_);refine goesL_ (some 9) rfl rfl Try.func41 (by kernel_rfl) rfl #[.int .i64 a0_1,.int .i64 0,.int .i64 65535] rfl q18_ ?_;(with_reducible refine (spec_l1In.calls a0_1 0 65535 false _ A3.out).mono ?_);rintro e w' ⟨rfl,⟨nd,rfl⟩⟩;refine ⟨_,rfl,?_⟩))
  go_ret
  exact ⟨q21_,q14_⟩
 rw [if_neg c2] at H
 have c2b0:(a0_0 == 1) = false:=beq_eq_false_iff_ne.mpr c2
 have c2b1:(a0_0 != 1) = true:=bne_iff_ne.mpr c2
 have HC9:=Aside0.mk H
 clear H
 go_enter Try.func27,Try.ntmps27
 go_upto_if 15 with (first | ((with_reducible refine gate_dst (N:=1) rfl ?_);refine box_event ?hg (N:=1) ?hd (cs:=#[.int .i64 a0_0,.int .i64 a0_1,.string a0_2]) (t:=45) ?hr ?_;(case hd => rfl);(case hg => rfl);(case hr => exact q62_);intro gb271 hg w10 hbox hb;have n0_:=Aside0.mk (below_step q20_ hb);have n1_:=Aside0.mk (hbox);have n2_:=Aside0.mk ((q10_:w.heap.size ≤ gb271));have n3_:=Aside0.mk ((q10_:w.heap.size ≤ gb271));clear HB;have HB:=n0_;have BK271:=n1_;have GW271:=n2_;have GE271:=n3_;clear n0_ n1_ n2_ n3_;clear hb hbox hg;have hcz11_0:w10.cell? ⟨gb271,0,none⟩ = some (.int .i64 a0_0):=(blk_cell BK271.out 0).trans rfl;have hcz11_1:w10.cell? ⟨gb271,1,none⟩ = some (.int .i64 a0_1):=(blk_cell BK271.out 1).trans rfl;have hcz11_2:w10.cell? ⟨gb271,2,none⟩ = some (.string a0_2):=(blk_cell BK271.out 2).trans rfl;have hfz11_0:=blk_frozen BK271.out 0;have hfz11_1:=blk_frozen BK271.out 1;have hfz11_2:=blk_frozen BK271.out 2))
 (try simp only [Act.put,List.setIfInBounds_toArray,List.set_cons_zero,List.set_cons_succ])
 go_cut [15] (fun v15 wc => ∃ (kq:Nat) (x15_8:Bool),v15 = .bool x15_8 ∧ Aside0 (spec_l2Node.j0 kq x15_8 a0_0 a0_1 a0_2 = some r) ∧ Aside0 (kq ≤ k) ∧ Aside0 (wc.heap[gb271]? = some (.cells #[.int .i64 a0_0,.int .i64 a0_1,.string a0_2] 45 (0,0))) ∧ Aside0 (Below w.heap.size w wc))
 case first =>
  have H:=HC9.out
  clear HC9
  by_cases c12:a0_0 = 2
  ·rw [if_pos c12] at H
   have c12b0:(a0_0 == 2) = true:=beq_iff_eq.mpr c12
   have c12b1:(a0_0 != 2) = false:=bne_eq_false_iff_eq.mpr c12
   clear c12
   (first | rw [c12b0] | (simp only [i64_w,i32_w];rw [c12b0]) | rw [c12b9] | skip)
   have H':=Aside0.mk H
   clear H
   go_wp2
   go_meet
   case rel => exact ⟨_,((a0_0 == 2)),q25_,H',⟨q44_⟩,⟨q24_⟩,⟨q14_⟩⟩
  rw [if_neg c12] at H
  have c12b0:(a0_0 == 2) = false:=beq_eq_false_iff_ne.mpr c12
  have c12b1:(a0_0 != 2) = true:=bne_iff_ne.mpr c12
  (first | rw [c12b0] | (simp only [i64_w,i32_w];rw [c12b0]) | rw [c12b9] | skip)
  have H':=Aside0.mk H
  clear H
  go_wp2
  go_meet
  case rel => exact ⟨_,((a0_0 == 3)),q25_,H',⟨q44_⟩,⟨q24_⟩,⟨q14_⟩⟩
 clear HC9
 try clear c1
 try clear c2
 try clear c2b0
 try clear c2b1
 try clear p2
 try clear c4
 try clear p6
 try clear c12
 try clear c12b0
 try clear c12b1
 try clear hcz11_0 hcz11_1 hcz11_2
 try clear hcz6_0 hcz6_1 hcz6_2
 try clear hcz8_0 hcz8_1 hcz8_2
 try clear hfz11_0 hfz11_1 hfz11_2
 try clear hfz6_0 hfz6_1 hfz6_2
 try clear hfz8_0 hfz8_1 hfz8_2
 obtain ⟨kq,x15_8,rfl,HA,HJ8,BK271,HB⟩:=hcut
 cases kq with
 | zero => exact absurd HA.out (by simp [spec_l2Node.j0])
 | succ kj8 =>
  have H:=HA.out
  clear HA
  simp only [spec_l2Node.j0] at H
  by_cases c13:x15_8 = true
  ·subst c13
   rewrite [if_pos rfl] at H
   by_cases c14:a0_1 = 0
   ·rw [if_pos c14] at H
    have c14b0:(a0_1 == 0) = true:=beq_iff_eq.mpr c14
    have c14b1:(a0_1 != 0) = false:=bne_eq_false_iff_eq.mpr c14
    clear c14
    replace H:=Option.bind_eq_some_iff.mp H
    obtain ⟨t273,A150,H⟩:=H
    have A15:=Aside0.mk A150
    clear A150
    obtain rfl:=Option.some.inj H
    have hcz16_0:wc.cell? ⟨gb271,0,none⟩ = some (.int .i64 a0_0):=bz_ BK271 0
    have hcz16_1:wc.cell? ⟨gb271,1,none⟩ = some (.int .i64 a0_1):=bz_ BK271 1
    have hcz16_2:wc.cell? ⟨gb271,2,none⟩ = some (.string a0_2):=bz_ BK271 2
    have hfz16_0:=blk_frozen BK271.out 0
    have hfz16_1:=blk_frozen BK271.out 1
    have hfz16_2:=blk_frozen BK271.out 2
    go_wp2_with (first | (go_at_call 42;(with_reducible refine (spec_NameOk.calls kj8 a0_2 t273 _ A15.out).mono ?_);rintro e w' ⟨rfl,⟨nd,rfl⟩⟩))
    go_ret
    exact ⟨q21_,q14_⟩
   rw [if_neg c14] at H
   have c14b0:(a0_1 == 0) = false:=beq_eq_false_iff_ne.mpr c14
   have c14b1:(a0_1 != 0) = true:=bne_iff_ne.mpr c14
   obtain rfl:=Option.some.inj H
   have hcz17_0:wc.cell? ⟨gb271,0,none⟩ = some (.int .i64 a0_0):=bz_ BK271 0
   have hcz17_1:wc.cell? ⟨gb271,1,none⟩ = some (.int .i64 a0_1):=bz_ BK271 1
   have hcz17_2:wc.cell? ⟨gb271,2,none⟩ = some (.string a0_2):=bz_ BK271 2
   have hfz17_0:=blk_frozen BK271.out 0
   have hfz17_1:=blk_frozen BK271.out 1
   have hfz17_2:=blk_frozen BK271.out 2
   go_wp2
   go_ret
   exact ⟨q21_,q14_⟩
  replace c13:=Bool.eq_false_iff.mpr c13
  subst c13
  rewrite [if_neg (show ¬ (false = true) by decide)] at H
  by_cases c18:a0_1 = 0
  ·rw [if_pos c18] at H
   have c18b0:(a0_1 == 0) = true:=beq_iff_eq.mpr c18
   have c18b1:(a0_1 != 0) = false:=bne_eq_false_iff_eq.mpr c18
   clear c18
   by_cases c19:a0_2.toList = ([]:List UInt8)
   ·rw [if_pos c19] at H
    have c19b0:(a0_2.toList == ([]:List UInt8)) = true:=beq_iff_eq.mpr c19
    have c19b1:(a0_2.toList != ([]:List UInt8)) = false:=bne_eq_false_iff_eq.mpr c19
    have c19b9:a0_2.toList.isEmpty = true:=(isEmpty_beq _).trans c19b0
    clear c19
    replace H:=Option.bind_eq_some_iff.mp H
    obtain ⟨t274,A200,H⟩:=H
    have A20:=Aside0.mk A200
    clear A200
    obtain rfl:=Option.some.inj H
    have hcz21_0:wc.cell? ⟨gb271,0,none⟩ = some (.int .i64 a0_0):=bz_ BK271 0
    have hcz21_1:wc.cell? ⟨gb271,1,none⟩ = some (.int .i64 a0_1):=bz_ BK271 1
    have hcz21_2:wc.cell? ⟨gb271,2,none⟩ = some (.string a0_2):=bz_ BK271 2
    have hfz21_0:=blk_frozen BK271.out 0
    have hfz21_1:=blk_frozen BK271.out 1
    have hfz21_2:=blk_frozen BK271.out 2
    go_wp2_with (first | (go_at_call 28;(with_reducible refine (spec_l2Takes.calls a0_0 t274 _ A20.out).mono ?_);rintro e w' ⟨rfl,⟨nd,rfl⟩⟩))
    go_ret
    exact ⟨q21_,q14_⟩
   rw [if_neg c19] at H
   have c19b0:(a0_2.toList == ([]:List UInt8)) = false:=beq_eq_false_iff_ne.mpr c19
   have c19b1:(a0_2.toList != ([]:List UInt8)) = true:=bne_iff_ne.mpr c19
   have c19b9:a0_2.toList.isEmpty = false:=(isEmpty_beq _).trans c19b0
   obtain rfl:=Option.some.inj H
   have hcz22_0:wc.cell? ⟨gb271,0,none⟩ = some (.int .i64 a0_0):=bz_ BK271 0
   have hcz22_1:wc.cell? ⟨gb271,1,none⟩ = some (.int .i64 a0_1):=bz_ BK271 1
   have hcz22_2:wc.cell? ⟨gb271,2,none⟩ = some (.string a0_2):=bz_ BK271 2
   have hfz22_0:=blk_frozen BK271.out 0
   have hfz22_1:=blk_frozen BK271.out 1
   have hfz22_2:=blk_frozen BK271.out 2
   go_wp2
   go_ret
   exact ⟨q21_,q14_⟩
  rw [if_neg c18] at H
  have c18b0:(a0_1 == 0) = false:=beq_eq_false_iff_ne.mpr c18
  have c18b1:(a0_1 != 0) = true:=bne_iff_ne.mpr c18
  obtain rfl:=Option.some.inj H
  have hcz23_0:wc.cell? ⟨gb271,0,none⟩ = some (.int .i64 a0_0):=bz_ BK271 0
  have hcz23_1:wc.cell? ⟨gb271,1,none⟩ = some (.int .i64 a0_1):=bz_ BK271 1
  have hcz23_2:wc.cell? ⟨gb271,2,none⟩ = some (.string a0_2):=bz_ BK271 2
  have hfz23_0:=blk_frozen BK271.out 0
  have hfz23_1:=blk_frozen BK271.out 1
  have hfz23_2:=blk_frozen BK271.out 2
  go_wp2
  go_ret
  exact ⟨q21_,q14_⟩
end Go.Proofs.Ytpghjbikjmnnoaa.QFnEval
