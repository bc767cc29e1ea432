/- The machine's side of a law,written by a program of this session for this claim. -/
import Derived.Test.YtabbdfchibjndaaGreatDoorXQq
import Derived.Test.YtabbdfchibjndaaGreatDoorXQFnExprTextsx0
import Derived.Test.YtabbdfchibjndaaGreatDoorXQFnExprTextsx2
import Derived.Test.YtabbdfchibjndaaGreatDoorXQFnExprTextsx4
import Derived.Test.YtabbdfchibjndaaGreatDoorXQFnExprTextsx6
import Derived.Test.YtabbdfchibjndaaGreatDoorXQFnExprTextsx7
import Derived.Test.YtabbdfchibjndaaGreatDoorXQFnExprTextsx8
import Derived.Test.YtabbdfchibjndaaGreatDoorXQFnExprTextsx9
import Derived.Test.YtabbdfchibjndaaGreatDoorXQFnExprTextsx10
import Derived.Test.YtabbdfchibjndaaGreatDoorXQFnExprTextsx11
namespace Go.Proofs.YtabbdfchibjndaaGreatDoor.QFnExprTexts
open Go.Proofs.YtabbdfchibjndaaGreatDoor.Qq
open Go.RowKit Go.Proofs.YtabbdfchibjndaaGreatDoor.LibX Go.Proofs.YtabbdfchibjndaaGreatDoor.LibE Go.Proofs.YtabbdfchibjndaaGreatDoor.LibG Go.Proofs.YtabbdfchibjndaaGreatDoor.LibCv Go.Proofs.YtabbdfchibjndaaGreatDoorW.PrintWords Go.Proofs.YtabbdfchibjndaaGreatDoorW.PrintLast Go.Proofs.YtabbdfchibjndaaGreatDoorW.PrintMore
attribute [local go_sem] max2_int min2_int max_two min_two max_three min_three max_four min_four   -- for this text's walks alone
set_option maxHeartbeats 8000000
set_option maxRecDepth 100000
set_option linter.unusedVariables false
set_option linter.unusedSimpArgs false
def laws_FnExprTexts.j0:Nat → List Int → Bool → Option (Bool)
 | 0,_,_ => none
 | k + 1,x0,x48 => if x48 = true then (some false) else ((spec_DrawReadExpr.f k x0).bind fun t385 => ((impl_ReadExpr.f k t385).bind fun bt386 => ((spec_ReadExpr.f k t385).bind fun bt390 => (if (bt386.2 == bt390.2) = true then (if bt386.2 = true then ((impl_ExprText.f k bt386.1).bind fun t394 => (some (t394.toList == t385.toList))) else (some true)) else (some false)))))
def laws_FnExprTexts.f (k:Nat) (l0:List Int):Option (Bool):=(laws_big.f l0).bind fun t371 => (if t371 = true then (some true) else ((spec_DrawExprText.f k l0).bind fun t372 => ((impl_ExprText.f k t372).bind fun t375 => ((impl_ReadExpr.f k t375).bind fun bt376 => ((spec_ExprText.f k t372).bind fun t380 => (if t375.toList = t380.toList then ((impl_ExprOk.f k t372).bind fun t381 => (if (bt376.2 != t381) = true then (laws_FnExprTexts.j0 k l0 true) else ((impl_ExprOk.f k t372).bind fun t382 => ((spec_ExprOk.f k t372).bind fun t383 => (if (t382 != t383) = true then (laws_FnExprTexts.j0 k l0 true) else (if bt376.2 = true then ((laws_sameExpr.f k bt376.1 t372).bind fun t384 => (laws_FnExprTexts.j0 k l0 (!t384))) else (laws_FnExprTexts.j0 k l0 false))))))) else (laws_FnExprTexts.j0 k l0 true)))))))
theorem laws_FnExprTexts.mono_l:∀ k,(∀ y0 y1,LeO (laws_FnExprTexts.j0 k y0 y1) (laws_FnExprTexts.j0 (k + 1) y0 y1))
 | 0 => fun _ _ r h => by simp [laws_FnExprTexts.j0] at h
 | k + 1 => by
  have ih0:=laws_FnExprTexts.mono_l k
  intro y0 y1
  unfold laws_FnExprTexts.j0
  repeat' first
  | (with_reducible first | exact ih0 _ _ | exact impl_ExprOk.mono _ _ | exact impl_ExprText.mono _ _ | exact impl_ReadExpr.mono _ _ | exact laws_sameExpr.mono _ _ _ | exact spec_DrawExprText.mono _ _ | exact spec_DrawReadExpr.mono _ _ | exact spec_ExprOk.mono _ _ | exact spec_ExprText.mono _ _ | exact spec_ReadExpr.mono _ _ | exact LeO.refl _ | exact LeO.none _ | refine LeO.ite ?_ ?_ | refine LeO.bind ?_ (fun _ => ?_))
  | exact ih0 _ _
  | exact impl_ExprOk.mono _ _
  | exact impl_ExprText.mono _ _
  | exact impl_ReadExpr.mono _ _
  | exact laws_sameExpr.mono _ _ _
  | exact spec_DrawExprText.mono _ _
  | exact spec_DrawReadExpr.mono _ _
  | exact spec_ExprOk.mono _ _
  | exact spec_ExprText.mono _ _
  | exact spec_ReadExpr.mono _ _
  | exact LeO.none _
  | refine LeO.ite ?_ ?_
  | refine LeO.bind ?_ (fun _ => ?_)
theorem laws_FnExprTexts.mono:∀ a0 k,LeO (laws_FnExprTexts.f k a0) (laws_FnExprTexts.f (k + 1) a0):=by
 intro a0 k
 have ih0:=laws_FnExprTexts.mono_l k
 unfold laws_FnExprTexts.f
 repeat' first
   | (with_reducible first | exact ih0 _ _ | exact impl_ExprOk.mono _ _ | exact impl_ExprText.mono _ _ | exact impl_ReadExpr.mono _ _ | exact laws_sameExpr.mono _ _ _ | exact spec_DrawExprText.mono _ _ | exact spec_DrawReadExpr.mono _ _ | exact spec_ExprOk.mono _ _ | exact spec_ExprText.mono _ _ | exact spec_ReadExpr.mono _ _ | exact LeO.refl _ | exact LeO.none _ | refine LeO.ite ?_ ?_ | refine LeO.bind ?_ (fun _ => ?_))
   | exact ih0 _ _
   | exact impl_ExprOk.mono _ _
   | exact impl_ExprText.mono _ _
   | exact impl_ReadExpr.mono _ _
   | exact laws_sameExpr.mono _ _ _
   | exact spec_DrawExprText.mono _ _
   | exact spec_DrawReadExpr.mono _ _
   | exact spec_ExprOk.mono _ _
   | exact spec_ExprText.mono _ _
   | exact spec_ReadExpr.mono _ _
   | exact LeO.none _
   | refine LeO.ite ?_ ?_
   | refine LeO.bind ?_ (fun _ => ?_)
theorem laws_FnExprTexts.calls (k:Nat) (A0:Option Addr) (c0:Nat) (l0:List Int) (r:Bool) (w:World) (hr0:Kd.C (Kd.int .u8) w A0 l0.length l0) (hc0:l0.length ≤ c0) (h:laws_FnExprTexts.f k l0 = some r) (hG:Go.Proofs.YtabbdfchibjndaaGreatDoor.LibW.GL w:=by first | exact hG | exact hG.below q4_ | exact hG.drewN _) :
  Calls Tryz.prog 3 #[.slice A0 l0.length c0] w fun e w' => e = .returned (.bool r) ∧ Below w.heap.size w w':=by
 have HR0:=Aside0.mk hr0
 have HC0:=Aside0.mk hc0
 clear hr0 hc0
 have HB:=Aside0.mk (Below.refl w.heap.size w)
 have H:=h;unfold laws_FnExprTexts.f at H
 clear h
 replace H:=Option.bind_eq_some_iff.mp H
 obtain ⟨t371,A20,H⟩:=H
 have A2:=Aside0.mk A20
 clear A20
 by_cases c3:t371 = true
 ·subst c3
  rewrite [if_pos rfl] at H
  obtain rfl:=Option.some.inj H
  go_enter Tryz.func3,Tryz.ntmps3
  go_wp2_with (first | ((with_reducible refine gate_callee (f:=4) rfl ?_);refine goesL_ (some 13) rfl rfl Tryz.func4 (by kernel_rfl) rfl #[.slice A0 l0.length c0] rfl q22_ ?_;(with_reducible refine (laws_big.calls _ _ l0 true _ ?side1 ?side2 A2.out).mono ?_);(case side1 => exact q57_);(case side2 => exact HC0.out);rintro e w' ⟨rfl,⟨nd,rfl⟩⟩;refine ⟨_,rfl,?_⟩))
  go_ret
  exact ⟨q26_,q24_⟩
 replace c3:=Bool.eq_false_iff.mpr c3
 subst c3
 rewrite [if_neg (show ¬ (false = true) by decide)] at H
 replace H:=Option.bind_eq_some_iff.mp H
 obtain ⟨t372,A40,H⟩:=H
 have A4:=Aside0.mk A40
 clear A40
 replace H:=Option.bind_eq_some_iff.mp H
 obtain ⟨t375,A50,H⟩:=H
 have A5:=Aside0.mk A50
 clear A50
 replace H:=Option.bind_eq_some_iff.mp H
 obtain ⟨⟨t376,t377⟩,A60,H⟩:=H
 try dsimp -simprocs -eta only at H
 have A6:=Aside0.mk A60
 clear A60
 have HC7:=Aside0.mk H
 clear H
 go_enter Tryz.func3,Tryz.ntmps3
 go_upto_region 6 with (first | ((with_reducible refine gate_callee (f:=4) rfl ?_);refine goesL_ (some 13) rfl rfl Tryz.func4 (by kernel_rfl) rfl #[.slice A0 l0.length c0] rfl q22_ ?_;(with_reducible refine (laws_big.calls _ _ l0 false _ ?side1 ?side2 A2.out).mono ?_);(case side1 => exact q57_);(case side2 => exact HC0.out);rintro e w' ⟨rfl,⟨nd,rfl⟩⟩;refine ⟨_,rfl,?_⟩) | ((with_reducible refine gate_callee (f:=5) rfl ?_);refine goesL_ (some 15) rfl rfl Tryz.func5 (by kernel_rfl) rfl #[.slice A0 l0.length c0] rfl q22_ ?_;(with_reducible refine (spec_DrawExprText.calls k _ _ l0 t372 _ ?side1 ?side2 A4.out).mono ?_);(case side1 => exact q57_);(case side2 => exact HC0.out);rintro e w8 ⟨v373,rfl,ho0,hb⟩;refine ⟨_,rfl,?_⟩;have n0_:=Aside0.mk (Kd.R_lower ho0 (below_size q24_));have n1_:=Aside0.mk (below_step q24_ hb);clear HB;have HO374:=n0_;have HB:=n1_;clear n0_ n1_;(try clear hb);(try clear ho0);obtain ⟨Ao9,co9,eo9⟩:=Kd.R_slice HO374.out;subst eo9) | ((with_reducible refine gate_callee (f:=6) rfl ?_);refine goesL_ (some 17) rfl rfl Tryz.func6 (by kernel_rfl) rfl #[.slice Ao9 t372.length co9] rfl q22_ ?_;(with_reducible refine (impl_ExprText.calls k _ _ t372 t375 _ ?side1 ?side2 A5.out).mono ?_);(case side1 => exact q53_);(case side2 => exact (Kd.R_reads' HO374.out).2.1);rintro e w10 ⟨rfl,hb⟩;refine ⟨_,rfl,?_⟩;have n0_:=Aside0.mk (Kd.R_below q37_ hb);have n1_:=Aside0.mk (below_step q24_ hb);clear HO374;clear HB;have HO374:=n0_;have HB:=n1_;clear n0_ n1_;(try clear hb)) | ((with_reducible refine gate_callee (f:=7) rfl ?_);refine goesL_ (some 20) rfl rfl Tryz.func7 (by kernel_rfl) rfl #[.string t375] rfl q22_ ?_;(with_reducible refine (impl_ReadExpr.calls k t375 t376 t377 _ A6.out).mono ?_);rintro e w11 ⟨v378,rfl,ho0,hb⟩;refine ⟨_,rfl,?_⟩;have n0_:=Aside0.mk (Kd.R_elder' q37_ (Kd.R_base ho0) hb);have n1_:=Aside0.mk (Kd.R_lower (Kd.R_new' ho0 (Kd.R_lt q37_)) (below_size q24_));have n2_:=Aside0.mk (below_step q24_ hb);clear HO374;clear HB;have HO374:=n0_;have HO379:=n1_;have HB:=n2_;clear n0_ n1_ n2_;(try clear hb);(try clear ho0)))
 (try simp only [Act.put,List.setIfInBounds_toArray,List.set_cons_zero,List.set_cons_succ])
 go_cut [48] (fun v48 wc => ∃ (kq:Nat) (x48_6:Bool),v48 = .bool x48_6 ∧ Aside0 (laws_FnExprTexts.j0 kq l0 x48_6 = some r) ∧ Aside0 (kq ≤ k) ∧ Aside0 (Below w.heap.size w wc))
 case first =>
  have H:=HC7.out
  clear HC7
  replace H:=Option.bind_eq_some_iff.mp H
  obtain ⟨t380,A120,H⟩:=H
  have A12:=Aside0.mk A120
  clear A120
  by_cases c13:t375.toList = t380.toList
  ·rw [if_pos c13] at H
   have c13b0:(t375.toList == t380.toList) = true:=beq_iff_eq.mpr c13
   have c13b1:(t375.toList != t380.toList) = false:=bne_eq_false_iff_eq.mpr c13
   clear c13
   (first | rw [c13b0] | (simp only [i64_w,i32_w];rw [c13b0]) | rw [c13b9] | skip)
   replace H:=Option.bind_eq_some_iff.mp H
   obtain ⟨t381,A140,H⟩:=H
   have A14:=Aside0.mk A140
   clear A140
   by_cases c15:(t377 != t381) = true
   ·rw [if_pos c15] at H
    have c15b0:(t377 != t381) = true:=c15
    (try (have c15b1:decide (t377 = t381) = false:=by simpa using c15))
    (try (have c15b2:(t377 == t381) = false:=by simpa using c15))
    (try (have c15b3:¬ (t377 = t381):=by simpa using c15))
    clear c15
    have H':=Aside0.mk H
    clear H
    go_wp2_with (first | ((with_reducible refine gate_callee (f:=8) rfl ?_);refine goesL_ (some 25) rfl rfl Tryz.func8 (by kernel_rfl) rfl #[.slice Ao9 t372.length co9] rfl q22_ ?_;(with_reducible refine (spec_ExprText.calls k _ _ t372 t380 _ ?side1 ?side2 A12.out).mono ?_);(case side1 => exact q53_);(case side2 => exact (Kd.R_reads' HO374.out).2.1);rintro e w16 ⟨rfl,hb⟩;refine ⟨_,rfl,?_⟩;have n0_:=Aside0.mk (Kd.R_below q37_ hb);have n1_:=Aside0.mk (Kd.R_below q38_ hb);have n2_:=Aside0.mk (below_step q24_ hb);clear HO374;clear HO379;clear HB;have HO374:=n0_;have HO379:=n1_;have HB:=n2_;clear n0_ n1_ n2_;(try clear hb)) | (go_at_call 9;(with_reducible refine (impl_ExprOk.calls k _ _ t372 t381 _ ?side1 ?side2 A14.out).mono ?_);(case side1 => exact q53_);(case side2 => exact (Kd.R_reads' HO374.out).2.1);rintro e w17 ⟨rfl,hb⟩;have n0_:=Aside0.mk (Kd.R_below q37_ hb);have n1_:=Aside0.mk (Kd.R_below q38_ hb);have n2_:=Aside0.mk (below_step q24_ hb);clear HO374;clear HO379;clear HB;have HO374:=n0_;have HO379:=n1_;have HB:=n2_;clear n0_ n1_ n2_;(try clear hb)))
    go_meet
    case rel => exact ⟨_,(true),q31_,H',⟨q48_⟩,⟨q24_⟩⟩
   rw [if_neg c15] at H
   have c15b0:(t377 != t381) = false:=by simpa using c15
   (try (have c15b1:decide (t377 = t381) = true:=by simpa using c15))
   (try (have c15b2:(t377 == t381) = true:=by simpa using c15))
   clear c15
   replace H:=Option.bind_eq_some_iff.mp H
   obtain ⟨t382,A180,H⟩:=H
   have A18:=Aside0.mk A180
   clear A180
   obtain rfl:t381 = t382:=Option.some.inj (A14.out.symm.trans A18.out)   -- one answer of both
   replace H:=Option.bind_eq_some_iff.mp H
   obtain ⟨t383,A190,H⟩:=H
   have A19:=Aside0.mk A190
   clear A190
   by_cases c20:(t381 != t383) = true
   ·rw [if_pos c20] at H
    have c20b0:(t381 != t383) = true:=c20
    (try (have c20b1:decide (t381 = t383) = false:=by simpa using c20))
    (try (have c20b2:(t381 == t383) = false:=by simpa using c20))
    (try (have c20b3:¬ (t381 = t383):=by simpa using c20))
    clear c20
    have H':=Aside0.mk H
    clear H
    go_wp2_with (first | ((with_reducible refine gate_callee (f:=8) rfl ?_);refine goesL_ (some 25) rfl rfl Tryz.func8 (by kernel_rfl) rfl #[.slice Ao9 t372.length co9] rfl q22_ ?_;(with_reducible refine (spec_ExprText.calls k _ _ t372 t380 _ ?side1 ?side2 A12.out).mono ?_);(case side1 => exact q53_);(case side2 => exact (Kd.R_reads' HO374.out).2.1);rintro e w21 ⟨rfl,hb⟩;refine ⟨_,rfl,?_⟩;have n0_:=Aside0.mk (Kd.R_below q37_ hb);have n1_:=Aside0.mk (Kd.R_below q38_ hb);have n2_:=Aside0.mk (below_step q24_ hb);clear HO374;clear HO379;clear HB;have HO374:=n0_;have HO379:=n1_;have HB:=n2_;clear n0_ n1_ n2_;(try clear hb)) | (go_at_call 9;(with_reducible refine (impl_ExprOk.calls k _ _ t372 t381 _ ?side1 ?side2 A14.out).mono ?_);(case side1 => exact q53_);(case side2 => exact (Kd.R_reads' HO374.out).2.1);rintro e w22 ⟨rfl,hb⟩;have n0_:=Aside0.mk (Kd.R_below q37_ hb);have n1_:=Aside0.mk (Kd.R_below q38_ hb);have n2_:=Aside0.mk (below_step q24_ hb);clear HO374;clear HO379;clear HB;have HO374:=n0_;have HO379:=n1_;have HB:=n2_;clear n0_ n1_ n2_;(try clear hb)) | (go_at_call 9;(with_reducible refine (impl_ExprOk.calls k _ _ t372 t381 _ ?side1 ?side2 A18.out).mono ?_);(case side1 => exact q53_);(case side2 => exact (Kd.R_reads' HO374.out).2.1);rintro e w23 ⟨rfl,hb⟩;have n0_:=Aside0.mk (Kd.R_below q37_ hb);have n1_:=Aside0.mk (Kd.R_below q38_ hb);have n2_:=Aside0.mk (below_step q24_ hb);clear HO374;clear HO379;clear HB;have HO374:=n0_;have HO379:=n1_;have HB:=n2_;clear n0_ n1_ n2_;(try clear hb)) | (go_at_call 10;(with_reducible refine (spec_ExprOk.calls k _ _ t372 t383 _ ?side1 ?side2 A19.out).mono ?_);(case side1 => exact q53_);(case side2 => exact (Kd.R_reads' HO374.out).2.1);rintro e w24 ⟨rfl,hb⟩;have n0_:=Aside0.mk (Kd.R_below q37_ hb);have n1_:=Aside0.mk (Kd.R_below q38_ hb);have n2_:=Aside0.mk (below_step q24_ hb);clear HO374;clear HO379;clear HB;have HO374:=n0_;have HO379:=n1_;have HB:=n2_;clear n0_ n1_ n2_;(try clear hb)))
    go_meet
    case rel => exact ⟨_,(true),q31_,H',⟨q48_⟩,⟨q24_⟩⟩
   rw [if_neg c20] at H
   have c20b0:(t381 != t383) = false:=by simpa using c20
   (try (have c20b1:decide (t381 = t383) = true:=by simpa using c20))
   (try (have c20b2:(t381 == t383) = true:=by simpa using c20))
   clear c20
   by_cases c25:t377 = true
   ·subst c25
    rewrite [if_pos rfl] at H
    replace H:=Option.bind_eq_some_iff.mp H
    obtain ⟨t384,A260,H⟩:=H
    have A26:=Aside0.mk A260
    clear A260
    have H':=Aside0.mk H
    clear H
    go_wp2_with (first | ((with_reducible refine gate_callee (f:=8) rfl ?_);refine goesL_ (some 25) rfl rfl Tryz.func8 (by kernel_rfl) rfl #[.slice Ao9 t372.length co9] rfl q22_ ?_;(with_reducible refine (spec_ExprText.calls k _ _ t372 t380 _ ?side1 ?side2 A12.out).mono ?_);(case side1 => exact q53_);(case side2 => exact (Kd.R_reads' HO374.out).2.1);rintro e w27 ⟨rfl,hb⟩;refine ⟨_,rfl,?_⟩;have n0_:=Aside0.mk (Kd.R_below q37_ hb);have n1_:=Aside0.mk (Kd.R_below q38_ hb);have n2_:=Aside0.mk (below_step q24_ hb);clear HO374;clear HO379;clear HB;have HO374:=n0_;have HO379:=n1_;have HB:=n2_;clear n0_ n1_ n2_;(try clear hb)) | (go_at_call 9;(with_reducible refine (impl_ExprOk.calls k _ _ t372 t381 _ ?side1 ?side2 A14.out).mono ?_);(case side1 => exact q53_);(case side2 => exact (Kd.R_reads' HO374.out).2.1);rintro e w28 ⟨rfl,hb⟩;have n0_:=Aside0.mk (Kd.R_below q37_ hb);have n1_:=Aside0.mk (Kd.R_below q38_ hb);have n2_:=Aside0.mk (below_step q24_ hb);clear HO374;clear HO379;clear HB;have HO374:=n0_;have HO379:=n1_;have HB:=n2_;clear n0_ n1_ n2_;(try clear hb)) | (go_at_call 9;(with_reducible refine (impl_ExprOk.calls k _ _ t372 t381 _ ?side1 ?side2 A18.out).mono ?_);(case side1 => exact q53_);(case side2 => exact (Kd.R_reads' HO374.out).2.1);rintro e w29 ⟨rfl,hb⟩;have n0_:=Aside0.mk (Kd.R_below q37_ hb);have n1_:=Aside0.mk (Kd.R_below q38_ hb);have n2_:=Aside0.mk (below_step q24_ hb);clear HO374;clear HO379;clear HB;have HO374:=n0_;have HO379:=n1_;have HB:=n2_;clear n0_ n1_ n2_;(try clear hb)) | (go_at_call 10;(with_reducible refine (spec_ExprOk.calls k _ _ t372 t383 _ ?side1 ?side2 A19.out).mono ?_);(case side1 => exact q53_);(case side2 => exact (Kd.R_reads' HO374.out).2.1);rintro e w30 ⟨rfl,hb⟩;have n0_:=Aside0.mk (Kd.R_below q37_ hb);have n1_:=Aside0.mk (Kd.R_below q38_ hb);have n2_:=Aside0.mk (below_step q24_ hb);clear HO374;clear HO379;clear HB;have HO374:=n0_;have HO379:=n1_;have HB:=n2_;clear n0_ n1_ n2_;(try clear hb);obtain ⟨Ao31,co31,eo31⟩:=Kd.R_slice HO379.out;subst eo31) | (go_at_call 11;(with_reducible refine (laws_sameExpr.calls k _ _ t376 _ _ t372 t384 _ ?side1 ?side2 ?side3 ?side4 A26.out).mono ?_);(case side1 => repeat (first | exact (Kd.R_reads' HO379.out).2.2 | (with_reducible refine Kd.C_alloc ?_ _) | (with_reducible refine Kd.C_drewN ?_ _) | (with_reducible refine Kd.C_drew ?_)));(case side2 => exact (Kd.R_reads' HO379.out).2.1);(case side3 => exact q53_);(case side4 => exact (Kd.R_reads' HO374.out).2.1);rintro e w' ⟨rfl,⟨nd,rfl⟩⟩))
    go_meet
    case rel => exact ⟨_,(!t384),q31_,H',⟨q48_⟩,⟨q24_⟩⟩
   replace c25:=Bool.eq_false_iff.mpr c25
   subst c25
   rewrite [if_neg (show ¬ (false = true) by decide)] at H
   have H':=Aside0.mk H
   clear H
   go_wp2_with (first | ((with_reducible refine gate_callee (f:=8) rfl ?_);refine goesL_ (some 25) rfl rfl Tryz.func8 (by kernel_rfl) rfl #[.slice Ao9 t372.length co9] rfl q22_ ?_;(with_reducible refine (spec_ExprText.calls k _ _ t372 t380 _ ?side1 ?side2 A12.out).mono ?_);(case side1 => exact q53_);(case side2 => exact (Kd.R_reads' HO374.out).2.1);rintro e w32 ⟨rfl,hb⟩;refine ⟨_,rfl,?_⟩;have n0_:=Aside0.mk (Kd.R_below q37_ hb);have n1_:=Aside0.mk (Kd.R_below q38_ hb);have n2_:=Aside0.mk (below_step q24_ hb);clear HO374;clear HO379;clear HB;have HO374:=n0_;have HO379:=n1_;have HB:=n2_;clear n0_ n1_ n2_;(try clear hb)) | (go_at_call 9;(with_reducible refine (impl_ExprOk.calls k _ _ t372 t381 _ ?side1 ?side2 A14.out).mono ?_);(case side1 => exact q53_);(case side2 => exact (Kd.R_reads' HO374.out).2.1);rintro e w33 ⟨rfl,hb⟩;have n0_:=Aside0.mk (Kd.R_below q37_ hb);have n1_:=Aside0.mk (Kd.R_below q38_ hb);have n2_:=Aside0.mk (below_step q24_ hb);clear HO374;clear HO379;clear HB;have HO374:=n0_;have HO379:=n1_;have HB:=n2_;clear n0_ n1_ n2_;(try clear hb)) | (go_at_call 9;(with_reducible refine (impl_ExprOk.calls k _ _ t372 t381 _ ?side1 ?side2 A18.out).mono ?_);(case side1 => exact q53_);(case side2 => exact (Kd.R_reads' HO374.out).2.1);rintro e w34 ⟨rfl,hb⟩;have n0_:=Aside0.mk (Kd.R_below q37_ hb);have n1_:=Aside0.mk (Kd.R_below q38_ hb);have n2_:=Aside0.mk (below_step q24_ hb);clear HO374;clear HO379;clear HB;have HO374:=n0_;have HO379:=n1_;have HB:=n2_;clear n0_ n1_ n2_;(try clear hb)) | (go_at_call 10;(with_reducible refine (spec_ExprOk.calls k _ _ t372 t383 _ ?side1 ?side2 A19.out).mono ?_);(case side1 => exact q53_);(case side2 => exact (Kd.R_reads' HO374.out).2.1);rintro e w35 ⟨rfl,hb⟩;have n0_:=Aside0.mk (Kd.R_below q37_ hb);have n1_:=Aside0.mk (Kd.R_below q38_ hb);have n2_:=Aside0.mk (below_step q24_ hb);clear HO374;clear HO379;clear HB;have HO374:=n0_;have HO379:=n1_;have HB:=n2_;clear n0_ n1_ n2_;(try clear hb)))
   go_meet
   case rel => exact ⟨_,(false),q31_,H',⟨q48_⟩,⟨q24_⟩⟩
  rw [if_neg c13] at H
  have c13b0:(t375.toList == t380.toList) = false:=beq_eq_false_iff_ne.mpr c13
  have c13b1:(t375.toList != t380.toList) = true:=bne_iff_ne.mpr c13
  (first | rw [c13b0] | (simp only [i64_w,i32_w];rw [c13b0]) | rw [c13b9] | skip)
  have H':=Aside0.mk H
  clear H
  go_wp2_with (first | ((with_reducible refine gate_callee (f:=8) rfl ?_);refine goesL_ (some 25) rfl rfl Tryz.func8 (by kernel_rfl) rfl #[.slice Ao9 t372.length co9] rfl q22_ ?_;(with_reducible refine (spec_ExprText.calls k _ _ t372 t380 _ ?side1 ?side2 A12.out).mono ?_);(case side1 => exact q53_);(case side2 => exact (Kd.R_reads' HO374.out).2.1);rintro e w36 ⟨rfl,hb⟩;refine ⟨_,rfl,?_⟩;have n0_:=Aside0.mk (Kd.R_below q37_ hb);have n1_:=Aside0.mk (Kd.R_below q38_ hb);have n2_:=Aside0.mk (below_step q24_ hb);clear HO374;clear HO379;clear HB;have HO374:=n0_;have HO379:=n1_;have HB:=n2_;clear n0_ n1_ n2_;(try clear hb)))
  go_meet
  case rel => exact ⟨_,(true),q31_,H',⟨q48_⟩,⟨q24_⟩⟩
 clear HC7
 try clear c1
 try clear c2
 try clear p2
 try clear c3
 try clear c4
 try clear c5
 try clear c6
 try clear p6
 try clear c7
 try clear c8
 try clear c13
 try clear c13b0
 try clear c13b1
 try clear c15
 try clear c15b0
 try clear c15b1
 try clear c15b2
 try clear c20
 try clear c20b0
 try clear c20b1
 try clear c20b2
 try clear c25
 obtain ⟨kq,x48_6,rfl,HA,HJ6,HB⟩:=hcut
 cases kq with
 | zero => exact absurd HA.out (by simp [laws_FnExprTexts.j0])
 | succ kj6 =>
  have H:=HA.out
  clear HA
  simp only [laws_FnExprTexts.j0] at H
  by_cases c37:x48_6 = true
  ·subst c37
   rewrite [if_pos rfl] at H
   obtain rfl:=Option.some.inj H
   go_wp2
   go_ret
   exact ⟨q26_,q24_⟩
  replace c37:=Bool.eq_false_iff.mpr c37
  subst c37
  rewrite [if_neg (show ¬ (false = true) by decide)] at H
  replace H:=Option.bind_eq_some_iff.mp H
  obtain ⟨t385,A380,H⟩:=H
  have A38:=Aside0.mk A380
  clear A380
  replace H:=Option.bind_eq_some_iff.mp H
  obtain ⟨⟨t386,t387⟩,A390,H⟩:=H
  try dsimp -simprocs -eta only at H
  have A39:=Aside0.mk A390
  clear A390
  replace H:=Option.bind_eq_some_iff.mp H
  obtain ⟨⟨t390,t391⟩,A400,H⟩:=H
  try dsimp -simprocs -eta only at H
  have A40:=Aside0.mk A400
  clear A400
  by_cases c41:(t387 == t391) = true
  ·rw [if_pos c41] at H
   have c41b0:(t387 == t391) = true:=c41
   (try (have c41b1:decide (t387 = t391) = true:=by simpa using c41))
   (try (have c41b2:(t387 == t391) = true:=by simpa using c41))
   clear c41
   by_cases c42:t387 = true
   ·subst c42
    rewrite [if_pos rfl] at H
    replace H:=Option.bind_eq_some_iff.mp H
    obtain ⟨t394,A430,H⟩:=H
    have A43:=Aside0.mk A430
    clear A430
    obtain rfl:=Option.some.inj H
    go_wp2_with (first | ((with_reducible refine gate_callee (f:=12) rfl ?_);refine goesL_ (some 50) rfl rfl Tryz.func12 (by kernel_rfl) rfl #[.slice A0 l0.length c0] rfl q22_ ?_;(with_reducible refine (spec_DrawReadExpr.calls kj6 _ _ l0 t385 _ ?side1 ?side2 A38.out).mono ?_);(case side1 => exact q51_);(case side2 => exact HC0.out);rintro e w44 ⟨rfl,hb⟩;refine ⟨_,rfl,?_⟩;replace HB:=Aside0.mk (below_step q24_ hb);(try clear hb)) | ((with_reducible refine gate_callee (f:=7) rfl ?_);refine goesL_ (some 53) rfl rfl Tryz.func7 (by kernel_rfl) rfl #[.string t385] rfl q22_ ?_;(with_reducible refine (impl_ReadExpr.calls kj6 t385 t386 true _ A39.out).mono ?_);rintro e w45 ⟨v388,rfl,ho0,hb⟩;refine ⟨_,rfl,?_⟩;have n0_:=Aside0.mk (Kd.R_lower ho0 (below_size q24_));have n1_:=Aside0.mk (below_step q24_ hb);clear HB;have HO389:=n0_;have HB:=n1_;clear n0_ n1_;(try clear hb);(try clear ho0)) | ((with_reducible refine gate_callee (f:=13) rfl ?_);refine goesL_ (some 58) rfl rfl Tryz.func13 (by kernel_rfl) rfl #[.string t385] rfl q22_ ?_;(with_reducible refine (spec_ReadExpr.calls kj6 t385 t390 t391 _ A40.out).mono ?_);rintro e w46 ⟨v392,rfl,ho0,hb⟩;refine ⟨_,rfl,?_⟩;have n0_:=Aside0.mk (Kd.R_elder' q39_ (Kd.R_base ho0) hb);have n1_:=Aside0.mk (Kd.R_lower (Kd.R_new' ho0 (Kd.R_lt q39_)) (below_size q24_));have n2_:=Aside0.mk (below_step q24_ hb);clear HO389;clear HB;have HO389:=n0_;have HO393:=n1_;have HB:=n2_;clear n0_ n1_ n2_;(try clear hb);(try clear ho0);obtain ⟨Ao47,co47,eo47⟩:=Kd.R_slice HO389.out;subst eo47) | (go_at_call 6;(with_reducible refine (impl_ExprText.calls kj6 _ _ t386 t394 _ ?side1 ?side2 A43.out).mono ?_);(case side1 => repeat (first | exact (Kd.R_reads' HO389.out).2.2 | (with_reducible refine Kd.C_alloc ?_ _) | (with_reducible refine Kd.C_drewN ?_ _) | (with_reducible refine Kd.C_drew ?_)));(case side2 => exact (Kd.R_reads' HO389.out).2.1);rintro e w48 ⟨rfl,hb⟩;have n0_:=Aside0.mk (Kd.R_below q39_ hb);have n1_:=Aside0.mk (Kd.R_below (by (with_reducible repeat (first | apply Kd.R_alloc | apply Kd.R_drewN | apply Kd.R_drew));exact HO393.out) hb);have n2_:=Aside0.mk (below_step q24_ hb);clear HO389;clear HO393;clear HB;have HO389:=n0_;have HO393:=n1_;have HB:=n2_;clear n0_ n1_ n2_;(try clear hb)))
    go_ret
    exact ⟨q26_,q24_⟩
   replace c42:=Bool.eq_false_iff.mpr c42
   subst c42
   rewrite [if_neg (show ¬ (false = true) by decide)] at H
   obtain rfl:=Option.some.inj H
   go_wp2_with (first | ((with_reducible refine gate_callee (f:=12) rfl ?_);refine goesL_ (some 50) rfl rfl Tryz.func12 (by kernel_rfl) rfl #[.slice A0 l0.length c0] rfl q22_ ?_;(with_reducible refine (spec_DrawReadExpr.calls kj6 _ _ l0 t385 _ ?side1 ?side2 A38.out).mono ?_);(case side1 => exact q51_);(case side2 => exact HC0.out);rintro e w49 ⟨rfl,hb⟩;refine ⟨_,rfl,?_⟩;replace HB:=Aside0.mk (below_step q24_ hb);(try clear hb)) | ((with_reducible refine gate_callee (f:=7) rfl ?_);refine goesL_ (some 53) rfl rfl Tryz.func7 (by kernel_rfl) rfl #[.string t385] rfl q22_ ?_;(with_reducible refine (impl_ReadExpr.calls kj6 t385 t386 false _ A39.out).mono ?_);rintro e w50 ⟨v388,rfl,ho0,hb⟩;refine ⟨_,rfl,?_⟩;have n0_:=Aside0.mk (Kd.R_lower ho0 (below_size q24_));have n1_:=Aside0.mk (below_step q24_ hb);clear HB;have HO389:=n0_;have HB:=n1_;clear n0_ n1_;(try clear hb);(try clear ho0)) | ((with_reducible refine gate_callee (f:=13) rfl ?_);refine goesL_ (some 58) rfl rfl Tryz.func13 (by kernel_rfl) rfl #[.string t385] rfl q22_ ?_;(with_reducible refine (spec_ReadExpr.calls kj6 t385 t390 t391 _ A40.out).mono ?_);rintro e w51 ⟨v392,rfl,ho0,hb⟩;refine ⟨_,rfl,?_⟩;have n0_:=Aside0.mk (Kd.R_elder' q39_ (Kd.R_base ho0) hb);have n1_:=Aside0.mk (Kd.R_lower (Kd.R_new' ho0 (Kd.R_lt q39_)) (below_size q24_));have n2_:=Aside0.mk (below_step q24_ hb);clear HO389;clear HB;have HO389:=n0_;have HO393:=n1_;have HB:=n2_;clear n0_ n1_ n2_;(try clear hb);(try clear ho0)))
   go_ret
   exact ⟨q26_,q24_⟩
  rw [if_neg c41] at H
  have c41b0:(t387 == t391) = false:=by simpa using c41
  (try (have c41b1:decide (t387 = t391) = false:=by simpa using c41))
  (try (have c41b2:(t387 == t391) = false:=by simpa using c41))
  (try (have c41b3:¬ (t387 = t391):=by simpa using c41))
  clear c41
  obtain rfl:=Option.some.inj H
  go_wp2_with (first | ((with_reducible refine gate_callee (f:=12) rfl ?_);refine goesL_ (some 50) rfl rfl Tryz.func12 (by kernel_rfl) rfl #[.slice A0 l0.length c0] rfl q22_ ?_;(with_reducible refine (spec_DrawReadExpr.calls kj6 _ _ l0 t385 _ ?side1 ?side2 A38.out).mono ?_);(case side1 => exact q51_);(case side2 => exact HC0.out);rintro e w52 ⟨rfl,hb⟩;refine ⟨_,rfl,?_⟩;replace HB:=Aside0.mk (below_step q24_ hb);(try clear hb)) | ((with_reducible refine gate_callee (f:=7) rfl ?_);refine goesL_ (some 53) rfl rfl Tryz.func7 (by kernel_rfl) rfl #[.string t385] rfl q22_ ?_;(with_reducible refine (impl_ReadExpr.calls kj6 t385 t386 t387 _ A39.out).mono ?_);rintro e w53 ⟨v388,rfl,ho0,hb⟩;refine ⟨_,rfl,?_⟩;have n0_:=Aside0.mk (Kd.R_lower ho0 (below_size q24_));have n1_:=Aside0.mk (below_step q24_ hb);clear HB;have HO389:=n0_;have HB:=n1_;clear n0_ n1_;(try clear hb);(try clear ho0)) | ((with_reducible refine gate_callee (f:=13) rfl ?_);refine goesL_ (some 58) rfl rfl Tryz.func13 (by kernel_rfl) rfl #[.string t385] rfl q22_ ?_;(with_reducible refine (spec_ReadExpr.calls kj6 t385 t390 t391 _ A40.out).mono ?_);rintro e w54 ⟨v392,rfl,ho0,hb⟩;refine ⟨_,rfl,?_⟩;have n0_:=Aside0.mk (Kd.R_elder' q39_ (Kd.R_base ho0) hb);have n1_:=Aside0.mk (Kd.R_lower (Kd.R_new' ho0 (Kd.R_lt q39_)) (below_size q24_));have n2_:=Aside0.mk (below_step q24_ hb);clear HO389;clear HB;have HO389:=n0_;have HO393:=n1_;have HB:=n2_;clear n0_ n1_ n2_;(try clear hb);(try clear ho0)))
  go_ret
  exact ⟨q26_,q24_⟩
/-- THE ONE PURE STATEMENT of laws_FnExprTexts: yours. -/
def laws_FnExprTexts.Pure:Prop:=∀ (l0:List Int),l0.length ≤ maxLen → l0.length * 1 ≤ 140737488351232 → (∀ x ∈ l0,(Lit.int .u8 x).wf = true) → ∃ k,laws_FnExprTexts.f k l0 = some true
theorem laws_FnExprTexts.walk (P:laws_FnExprTexts.Pure) (a0:Option Addr) (len0 cap0:Nat) (z0:List Int) (w:World) (w0:(a0 = none ∧ len0 = 0 ∧ cap0 = 0 ∧ z0 = []) ∨ ∃ x,a0 = some x ∧ len0 ≤ cap0 ∧ cap0 ≤ maxLen ∧ z0.length = cap0 ∧ (∀ i,i < z0.length → w.cell? (x.add i) = some (.int .u8 (z0.getD i 0))) ∧ ∀ n ∈ z0,(Lit.int .u8 n).wf = true) (y0:len0 * 1 ≤ 140737488351232) (hG:Go.Proofs.YtabbdfchibjndaaGreatDoor.LibW.GL w) :
  Calls Tryz.prog 3 #[.slice a0 len0 cap0] w fun e w' => e = .returned (.bool true) ∧ Below w.heap.size w w':=by
 obtain ⟨l0,rfl,hr0,hm0,hw0,hc0⟩:=ReadsInt.ofRowC w0
 obtain ⟨k,h⟩:=P l0 hm0 y0 hw0
 refine (laws_FnExprTexts.calls k _ _ l0 true w (Kd.C_of_reads (d:=(0:Int)) (h1:=fun _ => rfl) hr0) hc0 h).mono ?_
 rintro e w' ⟨rfl,hd⟩
 exact ⟨rfl,hd⟩
end Go.Proofs.YtabbdfchibjndaaGreatDoor.QFnExprTexts
