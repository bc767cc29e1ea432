/- The machine's side of a law,written by a program of this session for this claim. -/
import Derived.Test.YtoiiaklmjpiejaaDoorSQq
import Derived.Test.YtoiiaklmjpiejaaDoorSQFnSymTextsx0
import Derived.Test.YtoiiaklmjpiejaaDoorSQFnSymTextsx2
import Derived.Test.YtoiiaklmjpiejaaDoorSQFnSymTextsx4
import Derived.Test.YtoiiaklmjpiejaaDoorSQFnSymTextsx5
import Derived.Test.YtoiiaklmjpiejaaDoorSQFnSymTextsx7
import Derived.Test.YtoiiaklmjpiejaaDoorSQFnSymTextsx8
import Derived.Test.YtoiiaklmjpiejaaDoorSQFnSymTextsx9
namespace Go.Proofs.YtoiiaklmjpiejaaDoor.QFnSymTexts
open Go.Proofs.YtoiiaklmjpiejaaDoor.Qq
open Go.RowKit Go.Proofs.YtoiiaklmjpiejaaDoor.LibX Go.Proofs.YtoiiaklmjpiejaaDoor.LibE Go.Proofs.YtoiiaklmjpiejaaDoor.LibCB Go.Proofs.YtoiiaklmjpiejaaDoor.LibG Go.Proofs.YtoiiaklmjpiejaaDoor.LibSY Go.Proofs.YtoiiaklmjpiejaaDoorW.PrintWords Go.Proofs.YtoiiaklmjpiejaaDoorW.PrintLast Go.Proofs.YtoiiaklmjpiejaaDoorW.PrintMore
attribute [local go_sem] max2_int min2_int max_two min_two max_three min_three max_four min_four   -- for this text's walks alone
set_option maxHeartbeats 8000000
set_option maxRecDepth 100000
set_option linter.unusedVariables false
set_option linter.unusedSimpArgs false
def laws_FnSymTexts.j0:Nat → List Int → Bool → Option (Bool)
 | 0,_,_ => none
 | k + 1,x0,x40 => if x40 = true then (some false) else ((spec_DrawReadSyms.f k x0).bind fun t247 => ((impl_ReadSyms.f k t247).bind fun bt248 => ((spec_ReadSyms.f k t247).bind fun bt252 => (if (bt248.2 == bt252.2) = true then (if bt248.2 = true then ((impl_SymText.f k bt248.1).bind fun t256 => (some (t256.toList == t247.toList))) else (some true)) else (some false)))))
def laws_FnSymTexts.f (k:Nat) (l0:List Int):Option (Bool):=(laws_big.f l0).bind fun t236 => (if t236 = true then (some true) else ((spec_DrawSymText.f k l0).bind fun t237 => ((impl_SymText.f k t237).bind fun t240 => ((impl_ReadSyms.f k t240).bind fun bt241 => ((spec_SymText.f k t237).bind fun t245 => (if t240.toList = t245.toList then (if t240.toList = ([]:List UInt8) then (laws_FnSymTexts.j0 k l0 false) else (if bt241.2 = true then ((laws_sameSyms.f k bt241.1 t237).bind fun t246 => (laws_FnSymTexts.j0 k l0 (!t246))) else (laws_FnSymTexts.j0 k l0 true))) else (laws_FnSymTexts.j0 k l0 true)))))))
theorem laws_FnSymTexts.calls (k:Nat) (A0:Option Addr) (c0:Nat) (l0:List Int) (r:Bool) (w:World) (hr0:Kd.C (Kd.int .u8) w A0 l0.length l0) (hc0:l0.length ≤ c0) (h:laws_FnSymTexts.f k l0 = some r) (hG:Go.Proofs.YtoiiaklmjpiejaaDoor.LibW.GL w:=by first | exact hG | exact hG.below q2_ | exact hG.drewN _) :
  Calls Tryd.prog 5 #[.slice A0 l0.length c0] w fun e w' => e = .returned (.bool r) ∧ Below w.heap.size w w':=by
 have HR0:=Aside0.mk hr0
 have HC0:=Aside0.mk hc0
 clear hr0 hc0
 have HB:=Aside0.mk (Below.refl w.heap.size w)
 have H:=h;unfold laws_FnSymTexts.f at H
 clear h
 replace H:=Option.bind_eq_some_iff.mp H
 obtain ⟨t236,A20,H⟩:=H
 have A2:=Aside0.mk A20
 clear A20
 by_cases c3:t236 = true
 ·subst c3
  rewrite [if_pos rfl] at H
  obtain rfl:=Option.some.inj H
  go_enter Tryd.func5,Tryd.ntmps5
  go_wp2_with (first | ((with_reducible refine gate_callee (f:=6) rfl ?_);refine goesL_ (some 13) rfl rfl Tryd.func6 (by kernel_rfl) rfl #[.slice A0 l0.length c0] rfl q19_ ?_;(with_reducible refine (laws_big.calls _ _ l0 true _ ?side1 ?side2 A2.out).mono ?_);(case side1 => exact q48_);(case side2 => exact HC0.out);rintro e w' ⟨rfl,⟨nd,rfl⟩⟩;refine ⟨_,rfl,?_⟩))
  go_ret
  exact ⟨q21_,q20_⟩
 replace c3:=Bool.eq_false_iff.mpr c3
 subst c3
 rewrite [if_neg (show ¬ (false = true) by decide)] at H
 replace H:=Option.bind_eq_some_iff.mp H
 obtain ⟨t237,A40,H⟩:=H
 have A4:=Aside0.mk A40
 clear A40
 replace H:=Option.bind_eq_some_iff.mp H
 obtain ⟨t240,A50,H⟩:=H
 have A5:=Aside0.mk A50
 clear A50
 replace H:=Option.bind_eq_some_iff.mp H
 obtain ⟨⟨t241,t242⟩,A60,H⟩:=H
 try dsimp -simprocs -eta only at H
 have A6:=Aside0.mk A60
 clear A60
 have HC7:=Aside0.mk H
 clear H
 go_enter Tryd.func5,Tryd.ntmps5
 go_upto_region 6 with (first | ((with_reducible refine gate_callee (f:=6) rfl ?_);refine goesL_ (some 13) rfl rfl Tryd.func6 (by kernel_rfl) rfl #[.slice A0 l0.length c0] rfl q19_ ?_;(with_reducible refine (laws_big.calls _ _ l0 false _ ?side1 ?side2 A2.out).mono ?_);(case side1 => exact q48_);(case side2 => exact HC0.out);rintro e w' ⟨rfl,⟨nd,rfl⟩⟩;refine ⟨_,rfl,?_⟩) | ((with_reducible refine gate_callee (f:=19) rfl ?_);refine goesL_ (some 15) rfl rfl Tryd.func19 (by kernel_rfl) rfl #[.slice A0 l0.length c0] rfl q19_ ?_;(with_reducible refine (spec_DrawSymText.calls k _ _ l0 t237 _ ?side1 ?side2 A4.out).mono ?_);(case side1 => exact q48_);(case side2 => exact HC0.out);rintro e w8 ⟨v238,rfl,ho0,hb⟩;refine ⟨_,rfl,?_⟩;have n0_:=Aside0.mk (Kd.R_lower ho0 (below_size q20_));have n1_:=Aside0.mk (below_step q20_ hb);clear HB;have HO239:=n0_;have HB:=n1_;clear n0_ n1_;(try clear hb);(try clear ho0);obtain ⟨Ao9,co9,eo9⟩:=Kd.R_slice HO239.out;subst eo9) | ((with_reducible refine gate_callee (f:=20) rfl ?_);refine goesL_ (some 17) rfl rfl Tryd.func20 (by kernel_rfl) rfl #[.slice Ao9 t237.length co9] rfl q19_ ?_;(with_reducible refine (impl_SymText.calls k _ _ t237 t240 _ ?side1 ?side2 A5.out).mono ?_);(case side1 => exact q43_);(case side2 => exact (Kd.R_reads' HO239.out).2.1);rintro e w10 ⟨rfl,hb⟩;refine ⟨_,rfl,?_⟩;have n0_:=Aside0.mk (Kd.R_below q28_ hb);have n1_:=Aside0.mk (below_step q20_ hb);clear HO239;clear HB;have HO239:=n0_;have HB:=n1_;clear n0_ n1_;(try clear hb)) | ((with_reducible refine gate_callee (f:=21) rfl ?_);refine goesL_ (some 20) rfl rfl Tryd.func21 (by kernel_rfl) rfl #[.string t240] rfl q19_ ?_;(with_reducible refine (impl_ReadSyms.calls k t240 t241 t242 _ A6.out).mono ?_);rintro e w11 ⟨v243,rfl,ho0,hb⟩;refine ⟨_,rfl,?_⟩;have n0_:=Aside0.mk (Kd.R_elder' q28_ (Kd.R_base ho0) hb);have n1_:=Aside0.mk (Kd.R_lower (Kd.R_new' ho0 (Kd.R_lt q28_)) (below_size q20_));have n2_:=Aside0.mk (below_step q20_ hb);clear HO239;clear HB;have HO239:=n0_;have HO244:=n1_;have HB:=n2_;clear n0_ n1_ n2_;(try clear hb);(try clear ho0)))
 (try simp only [Act.put,List.setIfInBounds_toArray,List.set_cons_zero,List.set_cons_succ])
 go_cut [40] (fun v40 wc => ∃ (kq:Nat) (x40_6:Bool),v40 = .bool x40_6 ∧ Aside0 (laws_FnSymTexts.j0 kq l0 x40_6 = some r) ∧ Aside0 (kq ≤ k) ∧ Aside0 (Below w.heap.size w wc))
 case first =>
  have H:=HC7.out
  clear HC7
  replace H:=Option.bind_eq_some_iff.mp H
  obtain ⟨t245,A120,H⟩:=H
  have A12:=Aside0.mk A120
  clear A120
  by_cases c13:t240.toList = t245.toList
  ·rw [if_pos c13] at H
   have c13b0:(t240.toList == t245.toList) = true:=beq_iff_eq.mpr c13
   have c13b1:(t240.toList != t245.toList) = false:=bne_eq_false_iff_eq.mpr c13
   clear c13
   (first | rw [c13b0] | (simp only [i64_w,i32_w];rw [c13b0]) | rw [c13b9] | skip)
   by_cases c14:t240.toList = ([]:List UInt8)
   ·rw [if_pos c14] at H
    have c14b0:(t240.toList == ([]:List UInt8)) = true:=beq_iff_eq.mpr c14
    have c14b1:(t240.toList != ([]:List UInt8)) = false:=bne_eq_false_iff_eq.mpr c14
    have c14b9:t240.toList.isEmpty = true:=(isEmpty_beq _).trans c14b0
    clear c14
    have H':=Aside0.mk H
    clear H
    go_wp2_with (first | ((with_reducible refine gate_callee (f:=22) rfl ?_);refine goesL_ (some 25) rfl rfl Tryd.func22 (by kernel_rfl) rfl #[.slice Ao9 t237.length co9] rfl q19_ ?_;(with_reducible refine (spec_SymText.calls k _ _ t237 t245 _ ?side1 ?side2 A12.out).mono ?_);(case side1 => exact q43_);(case side2 => exact (Kd.R_reads' HO239.out).2.1);rintro e w15 ⟨rfl,hb⟩;refine ⟨_,rfl,?_⟩;have n0_:=Aside0.mk (Kd.R_below q28_ hb);have n1_:=Aside0.mk (Kd.R_below q29_ hb);have n2_:=Aside0.mk (below_step q20_ hb);clear HO239;clear HO244;clear HB;have HO239:=n0_;have HO244:=n1_;have HB:=n2_;clear n0_ n1_ n2_;(try clear hb)))
    go_meet
    case rel => exact ⟨_,(false),q26_,H',⟨q37_⟩,⟨q20_⟩⟩
   rw [if_neg c14] at H
   have c14b0:(t240.toList == ([]:List UInt8)) = false:=beq_eq_false_iff_ne.mpr c14
   have c14b1:(t240.toList != ([]:List UInt8)) = true:=bne_iff_ne.mpr c14
   have c14b9:t240.toList.isEmpty = false:=(isEmpty_beq _).trans c14b0
   by_cases c16:t242 = true
   ·subst c16
    rewrite [if_pos rfl] at H
    replace H:=Option.bind_eq_some_iff.mp H
    obtain ⟨t246,A170,H⟩:=H
    have A17:=Aside0.mk A170
    clear A170
    have H':=Aside0.mk H
    clear H
    go_wp2_with (first | ((with_reducible refine gate_callee (f:=22) rfl ?_);refine goesL_ (some 25) rfl rfl Tryd.func22 (by kernel_rfl) rfl #[.slice Ao9 t237.length co9] rfl q19_ ?_;(with_reducible refine (spec_SymText.calls k _ _ t237 t245 _ ?side1 ?side2 A12.out).mono ?_);(case side1 => exact q43_);(case side2 => exact (Kd.R_reads' HO239.out).2.1);rintro e w18 ⟨rfl,hb⟩;refine ⟨_,rfl,?_⟩;have n0_:=Aside0.mk (Kd.R_below q28_ hb);have n1_:=Aside0.mk (Kd.R_below q29_ hb);have n2_:=Aside0.mk (below_step q20_ hb);clear HO239;clear HO244;clear HB;have HO239:=n0_;have HO244:=n1_;have HB:=n2_;clear n0_ n1_ n2_;(try clear hb);obtain ⟨Ao19,co19,eo19⟩:=Kd.R_slice HO244.out;subst eo19) | (go_at_call 23;(with_reducible refine (laws_sameSyms.calls k _ _ t241 _ _ t237 t246 _ ?side1 ?side2 ?side3 ?side4 A17.out).mono ?_);(case side1 => repeat (first | exact (Kd.R_reads' HO244.out).2.2 | (with_reducible refine Kd.C_alloc ?_ _) | (with_reducible refine Kd.C_drewN ?_ _) | (with_reducible refine Kd.C_drew ?_)));(case side2 => exact (Kd.R_reads' HO244.out).2.1);(case side3 => exact q43_);(case side4 => exact (Kd.R_reads' HO239.out).2.1);rintro e w' ⟨rfl,⟨nd,rfl⟩⟩))
    go_meet
    case rel => exact ⟨_,(!t246),q26_,H',⟨q37_⟩,⟨q20_⟩⟩
   replace c16:=Bool.eq_false_iff.mpr c16
   subst c16
   rewrite [if_neg (show ¬ (false = true) by decide)] at H
   have H':=Aside0.mk H
   clear H
   go_wp2_with (first | ((with_reducible refine gate_callee (f:=22) rfl ?_);refine goesL_ (some 25) rfl rfl Tryd.func22 (by kernel_rfl) rfl #[.slice Ao9 t237.length co9] rfl q19_ ?_;(with_reducible refine (spec_SymText.calls k _ _ t237 t245 _ ?side1 ?side2 A12.out).mono ?_);(case side1 => exact q43_);(case side2 => exact (Kd.R_reads' HO239.out).2.1);rintro e w20 ⟨rfl,hb⟩;refine ⟨_,rfl,?_⟩;have n0_:=Aside0.mk (Kd.R_below q28_ hb);have n1_:=Aside0.mk (Kd.R_below q29_ hb);have n2_:=Aside0.mk (below_step q20_ hb);clear HO239;clear HO244;clear HB;have HO239:=n0_;have HO244:=n1_;have HB:=n2_;clear n0_ n1_ n2_;(try clear hb)))
   go_meet
   case rel => exact ⟨_,(true),q26_,H',⟨q37_⟩,⟨q20_⟩⟩
  rw [if_neg c13] at H
  have c13b0:(t240.toList == t245.toList) = false:=beq_eq_false_iff_ne.mpr c13
  have c13b1:(t240.toList != t245.toList) = true:=bne_iff_ne.mpr c13
  (first | rw [c13b0] | (simp only [i64_w,i32_w];rw [c13b0]) | rw [c13b9] | skip)
  have H':=Aside0.mk H
  clear H
  go_wp2_with (first | ((with_reducible refine gate_callee (f:=22) rfl ?_);refine goesL_ (some 25) rfl rfl Tryd.func22 (by kernel_rfl) rfl #[.slice Ao9 t237.length co9] rfl q19_ ?_;(with_reducible refine (spec_SymText.calls k _ _ t237 t245 _ ?side1 ?side2 A12.out).mono ?_);(case side1 => exact q43_);(case side2 => exact (Kd.R_reads' HO239.out).2.1);rintro e w21 ⟨rfl,hb⟩;refine ⟨_,rfl,?_⟩;have n0_:=Aside0.mk (Kd.R_below q28_ hb);have n1_:=Aside0.mk (Kd.R_below q29_ hb);have n2_:=Aside0.mk (below_step q20_ hb);clear HO239;clear HO244;clear HB;have HO239:=n0_;have HO244:=n1_;have HB:=n2_;clear n0_ n1_ n2_;(try clear hb)))
  go_meet
  case rel => exact ⟨_,(true),q26_,H',⟨q37_⟩,⟨q20_⟩⟩
 clear HC7
 try clear c1
 try clear c2
 try clear p2
 try clear c3
 try clear c5
 try clear c6
 try clear p6
 try clear c13
 try clear c13b0
 try clear c13b1
 try clear c14
 try clear c14b0
 try clear c14b1
 try clear c16
 try clear c19
 try clear c20
 try clear c21
 obtain ⟨kq,x40_6,rfl,HA,HJ6,HB⟩:=hcut
 cases kq with
 | zero => exact absurd HA.out (by simp [laws_FnSymTexts.j0])
 | succ kj6 =>
  have H:=HA.out
  clear HA
  simp only [laws_FnSymTexts.j0] at H
  by_cases c22:x40_6 = true
  ·subst c22
   rewrite [if_pos rfl] at H
   obtain rfl:=Option.some.inj H
   go_wp2
   go_ret
   exact ⟨q21_,q20_⟩
  replace c22:=Bool.eq_false_iff.mpr c22
  subst c22
  rewrite [if_neg (show ¬ (false = true) by decide)] at H
  replace H:=Option.bind_eq_some_iff.mp H
  obtain ⟨t247,A230,H⟩:=H
  have A23:=Aside0.mk A230
  clear A230
  replace H:=Option.bind_eq_some_iff.mp H
  obtain ⟨⟨t248,t249⟩,A240,H⟩:=H
  try dsimp -simprocs -eta only at H
  have A24:=Aside0.mk A240
  clear A240
  replace H:=Option.bind_eq_some_iff.mp H
  obtain ⟨⟨t252,t253⟩,A250,H⟩:=H
  try dsimp -simprocs -eta only at H
  have A25:=Aside0.mk A250
  clear A250
  by_cases c26:(t249 == t253) = true
  ·rw [if_pos c26] at H
   have c26b0:(t249 == t253) = true:=c26
   (try (have c26b1:decide (t249 = t253) = true:=by simpa using c26))
   (try (have c26b2:(t249 == t253) = true:=by simpa using c26))
   clear c26
   by_cases c27:t249 = true
   ·subst c27
    rewrite [if_pos rfl] at H
    replace H:=Option.bind_eq_some_iff.mp H
    obtain ⟨t256,A280,H⟩:=H
    have A28:=Aside0.mk A280
    clear A280
    obtain rfl:=Option.some.inj H
    go_wp2_with (first | ((with_reducible refine gate_callee (f:=24) rfl ?_);refine goesL_ (some 42) rfl rfl Tryd.func24 (by kernel_rfl) rfl #[.slice A0 l0.length c0] rfl q19_ ?_;(with_reducible refine (spec_DrawReadSyms.calls kj6 _ _ l0 t247 _ ?side1 ?side2 A23.out).mono ?_);(case side1 => exact q41_);(case side2 => exact HC0.out);rintro e w29 ⟨rfl,hb⟩;refine ⟨_,rfl,?_⟩;replace HB:=Aside0.mk (below_step q20_ hb);(try clear hb)) | ((with_reducible refine gate_callee (f:=21) rfl ?_);refine goesL_ (some 45) rfl rfl Tryd.func21 (by kernel_rfl) rfl #[.string t247] rfl q19_ ?_;(with_reducible refine (impl_ReadSyms.calls kj6 t247 t248 true _ A24.out).mono ?_);rintro e w30 ⟨v250,rfl,ho0,hb⟩;refine ⟨_,rfl,?_⟩;have n0_:=Aside0.mk (Kd.R_lower ho0 (below_size q20_));have n1_:=Aside0.mk (below_step q20_ hb);clear HB;have HO251:=n0_;have HB:=n1_;clear n0_ n1_;(try clear hb);(try clear ho0)) | ((with_reducible refine gate_callee (f:=25) rfl ?_);refine goesL_ (some 50) rfl rfl Tryd.func25 (by kernel_rfl) rfl #[.string t247] rfl q19_ ?_;(with_reducible refine (spec_ReadSyms.calls kj6 t247 t252 t253 _ A25.out).mono ?_);rintro e w31 ⟨v254,rfl,ho0,hb⟩;refine ⟨_,rfl,?_⟩;have n0_:=Aside0.mk (Kd.R_elder' q30_ (Kd.R_base ho0) hb);have n1_:=Aside0.mk (Kd.R_lower (Kd.R_new' ho0 (Kd.R_lt q30_)) (below_size q20_));have n2_:=Aside0.mk (below_step q20_ hb);clear HO251;clear HB;have HO251:=n0_;have HO255:=n1_;have HB:=n2_;clear n0_ n1_ n2_;(try clear hb);(try clear ho0);obtain ⟨Ao32,co32,eo32⟩:=Kd.R_slice HO251.out;subst eo32) | (go_at_call 20;(with_reducible refine (impl_SymText.calls kj6 _ _ t248 t256 _ ?side1 ?side2 A28.out).mono ?_);(case side1 => repeat (first | exact (Kd.R_reads' HO251.out).2.2 | (with_reducible refine Kd.C_alloc ?_ _) | (with_reducible refine Kd.C_drewN ?_ _) | (with_reducible refine Kd.C_drew ?_)));(case side2 => exact (Kd.R_reads' HO251.out).2.1);rintro e w33 ⟨rfl,hb⟩;have n0_:=Aside0.mk (Kd.R_below q30_ hb);have n1_:=Aside0.mk (Kd.R_below (by (with_reducible repeat (first | apply Kd.R_alloc | apply Kd.R_drewN | apply Kd.R_drew));exact HO255.out) hb);have n2_:=Aside0.mk (below_step q20_ hb);clear HO251;clear HO255;clear HB;have HO251:=n0_;have HO255:=n1_;have HB:=n2_;clear n0_ n1_ n2_;(try clear hb)))
    go_ret
    exact ⟨q21_,q20_⟩
   replace c27:=Bool.eq_false_iff.mpr c27
   subst c27
   rewrite [if_neg (show ¬ (false = true) by decide)] at H
   obtain rfl:=Option.some.inj H
   go_wp2_with (first | ((with_reducible refine gate_callee (f:=24) rfl ?_);refine goesL_ (some 42) rfl rfl Tryd.func24 (by kernel_rfl) rfl #[.slice A0 l0.length c0] rfl q19_ ?_;(with_reducible refine (spec_DrawReadSyms.calls kj6 _ _ l0 t247 _ ?side1 ?side2 A23.out).mono ?_);(case side1 => exact q41_);(case side2 => exact HC0.out);rintro e w34 ⟨rfl,hb⟩;refine ⟨_,rfl,?_⟩;replace HB:=Aside0.mk (below_step q20_ hb);(try clear hb)) | ((with_reducible refine gate_callee (f:=21) rfl ?_);refine goesL_ (some 45) rfl rfl Tryd.func21 (by kernel_rfl) rfl #[.string t247] rfl q19_ ?_;(with_reducible refine (impl_ReadSyms.calls kj6 t247 t248 false _ A24.out).mono ?_);rintro e w35 ⟨v250,rfl,ho0,hb⟩;refine ⟨_,rfl,?_⟩;have n0_:=Aside0.mk (Kd.R_lower ho0 (below_size q20_));have n1_:=Aside0.mk (below_step q20_ hb);clear HB;have HO251:=n0_;have HB:=n1_;clear n0_ n1_;(try clear hb);(try clear ho0)) | ((with_reducible refine gate_callee (f:=25) rfl ?_);refine goesL_ (some 50) rfl rfl Tryd.func25 (by kernel_rfl) rfl #[.string t247] rfl q19_ ?_;(with_reducible refine (spec_ReadSyms.calls kj6 t247 t252 t253 _ A25.out).mono ?_);rintro e w36 ⟨v254,rfl,ho0,hb⟩;refine ⟨_,rfl,?_⟩;have n0_:=Aside0.mk (Kd.R_elder' q30_ (Kd.R_base ho0) hb);have n1_:=Aside0.mk (Kd.R_lower (Kd.R_new' ho0 (Kd.R_lt q30_)) (below_size q20_));have n2_:=Aside0.mk (below_step q20_ hb);clear HO251;clear HB;have HO251:=n0_;have HO255:=n1_;have HB:=n2_;clear n0_ n1_ n2_;(try clear hb);(try clear ho0)))
   go_ret
   exact ⟨q21_,q20_⟩
  rw [if_neg c26] at H
  have c26b0:(t249 == t253) = false:=by simpa using c26
  (try (have c26b1:decide (t249 = t253) = false:=by simpa using c26))
  (try (have c26b2:(t249 == t253) = false:=by simpa using c26))
  (try (have c26b3:¬ (t249 = t253):=by simpa using c26))
  clear c26
  obtain rfl:=Option.some.inj H
  go_wp2_with (first | ((with_reducible refine gate_callee (f:=24) rfl ?_);refine goesL_ (some 42) rfl rfl Tryd.func24 (by kernel_rfl) rfl #[.slice A0 l0.length c0] rfl q19_ ?_;(with_reducible refine (spec_DrawReadSyms.calls kj6 _ _ l0 t247 _ ?side1 ?side2 A23.out).mono ?_);(case side1 => exact q41_);(case side2 => exact HC0.out);rintro e w37 ⟨rfl,hb⟩;refine ⟨_,rfl,?_⟩;replace HB:=Aside0.mk (below_step q20_ hb);(try clear hb)) | ((with_reducible refine gate_callee (f:=21) rfl ?_);refine goesL_ (some 45) rfl rfl Tryd.func21 (by kernel_rfl) rfl #[.string t247] rfl q19_ ?_;(with_reducible refine (impl_ReadSyms.calls kj6 t247 t248 t249 _ A24.out).mono ?_);rintro e w38 ⟨v250,rfl,ho0,hb⟩;refine ⟨_,rfl,?_⟩;have n0_:=Aside0.mk (Kd.R_lower ho0 (below_size q20_));have n1_:=Aside0.mk (below_step q20_ hb);clear HB;have HO251:=n0_;have HB:=n1_;clear n0_ n1_;(try clear hb);(try clear ho0)) | ((with_reducible refine gate_callee (f:=25) rfl ?_);refine goesL_ (some 50) rfl rfl Tryd.func25 (by kernel_rfl) rfl #[.string t247] rfl q19_ ?_;(with_reducible refine (spec_ReadSyms.calls kj6 t247 t252 t253 _ A25.out).mono ?_);rintro e w39 ⟨v254,rfl,ho0,hb⟩;refine ⟨_,rfl,?_⟩;have n0_:=Aside0.mk (Kd.R_elder' q30_ (Kd.R_base ho0) hb);have n1_:=Aside0.mk (Kd.R_lower (Kd.R_new' ho0 (Kd.R_lt q30_)) (below_size q20_));have n2_:=Aside0.mk (below_step q20_ hb);clear HO251;clear HB;have HO251:=n0_;have HO255:=n1_;have HB:=n2_;clear n0_ n1_ n2_;(try clear hb);(try clear ho0)))
  go_ret
  exact ⟨q21_,q20_⟩
/-- THE ONE PURE STATEMENT of laws_FnSymTexts: yours. -/
def laws_FnSymTexts.Pure:Prop:=∀ (l0:List Int),l0.length ≤ maxLen → l0.length * 1 ≤ 140737488351232 → (∀ x ∈ l0,(Lit.int .u8 x).wf = true) → ∃ k,laws_FnSymTexts.f k l0 = some true
theorem laws_FnSymTexts.walk (P:laws_FnSymTexts.Pure) (a0:Option Addr) (len0 cap0:Nat) (z0:List Int) (w:World) (w0:(a0 = none ∧ len0 = 0 ∧ cap0 = 0 ∧ z0 = []) ∨ ∃ x,a0 = some x ∧ len0 ≤ cap0 ∧ cap0 ≤ maxLen ∧ z0.length = cap0 ∧ (∀ i,i < z0.length → w.cell? (x.add i) = some (.int .u8 (z0.getD i 0))) ∧ ∀ n ∈ z0,(Lit.int .u8 n).wf = true) (y0:len0 * 1 ≤ 140737488351232) (hG:Go.Proofs.YtoiiaklmjpiejaaDoor.LibW.GL w) :
  Calls Tryd.prog 5 #[.slice a0 len0 cap0] w fun e w' => e = .returned (.bool true) ∧ Below w.heap.size w w':=by
 obtain ⟨l0,rfl,hr0,hm0,hw0,hc0⟩:=ReadsInt.ofRowC w0
 obtain ⟨k,h⟩:=P l0 hm0 y0 hw0
 refine (laws_FnSymTexts.calls k _ _ l0 true w (Kd.C_of_reads (d:=(0:Int)) (h1:=fun _ => rfl) hr0) hc0 h).mono ?_
 rintro e w' ⟨rfl,hd⟩
 exact ⟨rfl,hd⟩
end Go.Proofs.YtoiiaklmjpiejaaDoor.QFnSymTexts
