/- The machine's side of a law,written by a program of this session for this claim. -/
import Derived.Test.YtodlnnoekccmmaaGreatDoorKQq
import Derived.Test.YtodlnnoekccmmaaGreatDoorKQFnMarksx0
import Derived.Test.YtodlnnoekccmmaaGreatDoorKQFnMarksx7
import Derived.Test.YtodlnnoekccmmaaGreatDoorKQFnMarksx10
import Derived.Test.YtodlnnoekccmmaaGreatDoorKQFnMarksx16
namespace Go.Proofs.YtodlnnoekccmmaaGreatDoor.QFnMarks
open Go.Proofs.YtodlnnoekccmmaaGreatDoor.Qq
open Go.RowKit Go.Proofs.YtodlnnoekccmmaaGreatDoor.LibX Go.Proofs.YtodlnnoekccmmaaGreatDoor.LibE Go.Proofs.YtodlnnoekccmmaaGreatDoor.LibCB Go.Proofs.YtodlnnoekccmmaaGreatDoorW.PrintWords Go.Proofs.YtodlnnoekccmmaaGreatDoorW.PrintLast Go.Proofs.YtodlnnoekccmmaaGreatDoorW.PrintMore
attribute [local go_sem] max2_int min2_int max_two min_two max_three min_three max_four min_four   -- for this text's walks alone
set_option maxHeartbeats 8000000
set_option maxRecDepth 100000
set_option linter.unusedVariables false
set_option linter.unusedSimpArgs false
def spec_l1Rd_near.f (k:Nat) (s0_0:List Int) (s0_1:Int) (a1:Int) (a2:Int):Option (Int × Int):=(spec_l1Rd_below.f s0_0 s0_1 8).bind fun bt580 => (if bt580.1 = 0 then (some (a1,bt580.2)) else (if bt580.1 = 1 then (some (a2,bt580.2)) else (if a2 < a1 then (some (a1,bt580.2)) else ((spec_l1Rd_word.f k s0_0 bt580.2).bind fun bt582 => (if (IntKind.u64.wrap (wrap64 ((wrap64 (a2 - a1)) + 1))) = 0 then (none) else (some (wrap64 (a1 + (wrap64 (Int.tmod (bt582.1 / 2) (IntKind.u64.wrap (wrap64 ((wrap64 (a2 - a1)) + 1)))))),bt582.2)))))))
theorem spec_l1Rd_near.mono:∀ a0 a1 a2 a3 k,LeO (spec_l1Rd_near.f k a0 a1 a2 a3) (spec_l1Rd_near.f (k + 1) a0 a1 a2 a3):=by
 intro a0 a1 a2 a3 k
 unfold spec_l1Rd_near.f
 repeat' first
   | (with_reducible first | exact spec_l1Rd_word.mono _ _ _ | exact LeO.refl _ | exact LeO.none _ | refine LeO.ite ?_ ?_ | refine LeO.bind ?_ (fun _ => ?_))
   | exact spec_l1Rd_word.mono _ _ _
   | exact LeO.none _
   | refine LeO.ite ?_ ?_
   | refine LeO.bind ?_ (fun _ => ?_)
theorem spec_l1Rd_near.calls (k:Nat) (g:Nat) (s0_0:List Int) (s0_1:Int) (a1:Int) (a2:Int) (r1:Int) (r2:Int) (w0 w:World) (hI:IsS96 w0 w g s0_0 s0_1) (hB:Below w0.heap.size w0 w) (h:spec_l1Rd_near.f k s0_0 s0_1 a1 a2 = some (r1,r2)) :
  Calls Tryz.prog 134 #[.pointer (some ⟨g,0,none⟩),.int .i64 a1,.int .i64 a2] w fun e w' => e = .returned (.int .i64 r1) ∧ IsS96 w0 w' g s0_0 r2 ∧ Below w0.heap.size w0 w' ∧ KeepBut w w' g none:=by
 have HI0:=Aside0.mk hI
 have HK:=Aside0.mk (KeepBut.refl w g none)
 have HL:=Aside0.mk hB.size
 clear hI
 have HW0:=Aside0.mk hB.size
 have HB:=Aside0.mk hB
 clear hB
 have H:=h;unfold spec_l1Rd_near.f at H
 clear h
 replace H:=Option.bind_eq_some_iff.mp H
 obtain ⟨⟨t580,t581⟩,A40,H⟩:=H
 try dsimp -simprocs -eta only at H
 have A4:=Aside0.mk A40
 clear A40
 by_cases c5:t580 = 0
 ·rw [if_pos c5] at H
  have c5b0:(t580 == 0) = true:=beq_iff_eq.mpr c5
  have c5b1:(t580 != 0) = false:=bne_eq_false_iff_eq.mpr c5
  clear c5
  simp only [Option.some.injEq,Prod.mk.injEq] at H
  obtain ⟨rfl,rfl⟩:=H
  go_enter Tryz.func134,Tryz.ntmps134
  go_wp2_with (first | ((with_reducible refine gate_callee (f:=44) rfl ?_);refine goesL_ (some 8) rfl rfl Tryz.func44 (by kernel_rfl) rfl #[.pointer (some ⟨g,0,none⟩),.int .i64 8] rfl q68_ ?_;(with_reducible refine (spec_l1Rd_below.calls g s0_0 s0_1 8 t580 t581 w0 _ ?side1 ?side2 A4.out).mono ?_);(case side1 => exact q152_);(case side2 => exact q148_);rintro e w6 ⟨rfl,hi,hb,hk⟩;refine ⟨_,rfl,?_⟩;have n0_:=Aside0.mk (KeepBut.trans q63_ hk (.inl rfl));have n1_:=Aside0.mk (hb);have n2_:=Aside0.mk (hi);clear HK;clear HB;clear HI0;have HK:=n0_;have HB:=n1_;have HI0:=n2_;clear n0_ n1_ n2_;(try clear hb);(try clear hk);(try clear hi)))
  go_ret
  exact ⟨q75_,q62_,q44_,q63_⟩
 rw [if_neg c5] at H
 have c5b0:(t580 == 0) = false:=beq_eq_false_iff_ne.mpr c5
 have c5b1:(t580 != 0) = true:=bne_iff_ne.mpr c5
 by_cases c7:t580 = 1
 ·rw [if_pos c7] at H
  have c7b0:(t580 == 1) = true:=beq_iff_eq.mpr c7
  have c7b1:(t580 != 1) = false:=bne_eq_false_iff_eq.mpr c7
  clear c7
  simp only [Option.some.injEq,Prod.mk.injEq] at H
  obtain ⟨rfl,rfl⟩:=H
  go_enter Tryz.func134,Tryz.ntmps134
  go_wp2_with (first | ((with_reducible refine gate_callee (f:=44) rfl ?_);refine goesL_ (some 8) rfl rfl Tryz.func44 (by kernel_rfl) rfl #[.pointer (some ⟨g,0,none⟩),.int .i64 8] rfl q68_ ?_;(with_reducible refine (spec_l1Rd_below.calls g s0_0 s0_1 8 t580 t581 w0 _ ?side1 ?side2 A4.out).mono ?_);(case side1 => exact q152_);(case side2 => exact q148_);rintro e w8 ⟨rfl,hi,hb,hk⟩;refine ⟨_,rfl,?_⟩;have n0_:=Aside0.mk (KeepBut.trans q63_ hk (.inl rfl));have n1_:=Aside0.mk (hb);have n2_:=Aside0.mk (hi);clear HK;clear HB;clear HI0;have HK:=n0_;have HB:=n1_;have HI0:=n2_;clear n0_ n1_ n2_;(try clear hb);(try clear hk);(try clear hi)))
  go_ret
  exact ⟨q75_,q62_,q44_,q63_⟩
 rw [if_neg c7] at H
 have c7b0:(t580 == 1) = false:=beq_eq_false_iff_ne.mpr c7
 have c7b1:(t580 != 1) = true:=bne_iff_ne.mpr c7
 by_cases c9:a2 < a1
 ·rw [if_pos c9] at H
  have c9b0:=decide_eq_true c9
  clear c9
  simp only [Option.some.injEq,Prod.mk.injEq] at H
  obtain ⟨rfl,rfl⟩:=H
  go_enter Tryz.func134,Tryz.ntmps134
  go_wp2_with (first | ((with_reducible refine gate_callee (f:=44) rfl ?_);refine goesL_ (some 8) rfl rfl Tryz.func44 (by kernel_rfl) rfl #[.pointer (some ⟨g,0,none⟩),.int .i64 8] rfl q68_ ?_;(with_reducible refine (spec_l1Rd_below.calls g s0_0 s0_1 8 t580 t581 w0 _ ?side1 ?side2 A4.out).mono ?_);(case side1 => exact q152_);(case side2 => exact q148_);rintro e w10 ⟨rfl,hi,hb,hk⟩;refine ⟨_,rfl,?_⟩;have n0_:=Aside0.mk (KeepBut.trans q63_ hk (.inl rfl));have n1_:=Aside0.mk (hb);have n2_:=Aside0.mk (hi);clear HK;clear HB;clear HI0;have HK:=n0_;have HB:=n1_;have HI0:=n2_;clear n0_ n1_ n2_;(try clear hb);(try clear hk);(try clear hi)))
  go_ret
  exact ⟨q75_,q62_,q44_,q63_⟩
 rw [if_neg c9] at H
 have c9b0:=decide_eq_false c9
 clear c9
 replace H:=Option.bind_eq_some_iff.mp H
 obtain ⟨⟨t582,t583⟩,A110,H⟩:=H
 try dsimp -simprocs -eta only at H
 have A11:=Aside0.mk A110
 clear A110
 by_cases c12:(IntKind.u64.wrap (wrap64 ((wrap64 (a2 - a1)) + 1))) = 0
 ·rw [if_pos c12] at H
  exact absurd H (by simp)
 rw [if_neg c12] at H
 have c12b0:((IntKind.u64.wrap (wrap64 ((wrap64 (a2 - a1)) + 1))) == 0) = false:=beq_eq_false_iff_ne.mpr c12
 have c12b1:((IntKind.u64.wrap (wrap64 ((wrap64 (a2 - a1)) + 1))) != 0) = true:=bne_iff_ne.mpr c12
 simp only [Option.some.injEq,Prod.mk.injEq] at H
 obtain ⟨rfl,rfl⟩:=H
 go_enter Tryz.func134,Tryz.ntmps134
 go_wp2_with (first | ((with_reducible refine gate_callee (f:=44) rfl ?_);refine goesL_ (some 8) rfl rfl Tryz.func44 (by kernel_rfl) rfl #[.pointer (some ⟨g,0,none⟩),.int .i64 8] rfl q68_ ?_;(with_reducible refine (spec_l1Rd_below.calls g s0_0 s0_1 8 t580 t581 w0 _ ?side1 ?side2 A4.out).mono ?_);(case side1 => exact q152_);(case side2 => exact q148_);rintro e w13 ⟨rfl,hi,hb,hk⟩;refine ⟨_,rfl,?_⟩;have n0_:=Aside0.mk (KeepBut.trans q63_ hk (.inl rfl));have n1_:=Aside0.mk (hb);have n2_:=Aside0.mk (hi);clear HK;clear HB;clear HI0;have HK:=n0_;have HB:=n1_;have HI0:=n2_;clear n0_ n1_ n2_;(try clear hb);(try clear hk);(try clear hi)) | ((with_reducible refine gate_callee (f:=158) rfl ?_);refine goesL_ (some 21) rfl rfl Tryz.func158 (by kernel_rfl) rfl #[.pointer (some ⟨g,0,none⟩)] rfl q68_ ?_;(with_reducible refine (spec_l1Rd_word.calls k g s0_0 t581 t582 t583 w0 _ ?side1 ?side2 A11.out).mono ?_);(case side1 => exact q152_);(case side2 => exact q148_);rintro e w14 ⟨rfl,hi,hb,hk⟩;refine ⟨_,rfl,?_⟩;have n0_:=Aside0.mk (KeepBut.trans q63_ hk (.inl rfl));have n1_:=Aside0.mk (hb);have n2_:=Aside0.mk (hi);clear HK;clear HB;clear HI0;have HK:=n0_;have HB:=n1_;have HI0:=n2_;clear n0_ n1_ n2_;(try clear hb);(try clear hk);(try clear hi)))
 go_ret
 exact ⟨q75_,q62_,q44_,q63_⟩
def spec_l1Rd_off.f (k:Nat) (s0_0:List Int) (s0_1:Int) (a1:Int) (a2:Int):Option (Int × Int):=(spec_l1Rd_once.f s0_0 s0_1 24).bind fun bt584 => (if bt584.1 = true then ((some (([wrap64 (a1 - 1),wrap64 (a2 + 1),(-9223372036854775808),9223372036854775807]:List Int):List Int)).bind fun y586 => ((spec_l1Rd_below.f s0_0 bt584.2 4).bind fun bt589 => (if 0 ≤ bt589.1 then (if bt589.1 < (y586.length:Int) then (some (rd y586 bt589.1,bt589.2)) else (none)) else (none)))) else ((spec_l1Rd_near.f k s0_0 bt584.2 a1 a2).bind fun bt592 => (some (bt592.1,bt592.2))))
theorem spec_l1Rd_off.mono:∀ a0 a1 a2 a3 k,LeO (spec_l1Rd_off.f k a0 a1 a2 a3) (spec_l1Rd_off.f (k + 1) a0 a1 a2 a3):=by
 intro a0 a1 a2 a3 k
 unfold spec_l1Rd_off.f
 repeat' first
   | (with_reducible first | exact spec_l1Rd_near.mono _ _ _ _ _ | exact LeO.refl _ | exact LeO.none _ | refine LeO.ite ?_ ?_ | refine LeO.bind ?_ (fun _ => ?_))
   | exact spec_l1Rd_near.mono _ _ _ _ _
   | exact LeO.none _
   | refine LeO.ite ?_ ?_
   | refine LeO.bind ?_ (fun _ => ?_)
theorem spec_l1Rd_off.calls (k:Nat) (g:Nat) (s0_0:List Int) (s0_1:Int) (a1:Int) (a2:Int) (r1:Int) (r2:Int) (w0 w:World) (hI:IsS96 w0 w g s0_0 s0_1) (hB:Below w0.heap.size w0 w) (h:spec_l1Rd_off.f k s0_0 s0_1 a1 a2 = some (r1,r2)) :
  Calls Tryz.prog 105 #[.pointer (some ⟨g,0,none⟩),.int .i64 a1,.int .i64 a2] w fun e w' => e = .returned (.int .i64 r1) ∧ IsS96 w0 w' g s0_0 r2 ∧ Below w0.heap.size w0 w' ∧ KeepBut w w' g none:=by
 have HI0:=Aside0.mk hI
 have HK:=Aside0.mk (KeepBut.refl w g none)
 have HL:=Aside0.mk hB.size
 clear hI
 have HW0:=Aside0.mk hB.size
 have HB:=Aside0.mk hB
 clear hB
 have H:=h;unfold spec_l1Rd_off.f at H
 clear h
 replace H:=Option.bind_eq_some_iff.mp H
 obtain ⟨⟨t584,t585⟩,A40,H⟩:=H
 try dsimp -simprocs -eta only at H
 have A4:=Aside0.mk A40
 clear A40
 by_cases c5:t584 = true
 ·subst c5
  rewrite [if_pos rfl] at H
  obtain ⟨y586,hy586⟩:∃ y_:List Int,y_ = (([wrap64 (a1 - 1),wrap64 (a2 + 1),(-9223372036854775808),9223372036854775807]:List Int)):=⟨_,rfl⟩
  replace H:((spec_l1Rd_below.f s0_0 t585 4).bind fun bt589 => (if 0 ≤ bt589.1 then (if bt589.1 < (y586.length:Int) then (some (rd y586 bt589.1,bt589.2)) else (none)) else (none))) = some (r1,r2):=by first | (rw [hy586];exact H) | exact H
  have Ny586:=Aside0.mk hy586
  clear hy586
  replace H:=Option.bind_eq_some_iff.mp H
  obtain ⟨⟨t589,t590⟩,A60,H⟩:=H
  try dsimp -simprocs -eta only at H
  have A6:=Aside0.mk A60
  clear A60
  by_cases c7:0 ≤ t589
  rotate_left
  ·rw [if_neg c7] at H
   exact absurd H (by simp)
  rw [if_pos c7] at H
  have c7b0:=decide_eq_true c7
  clear c7
  by_cases c8:t589 < (y586.length:Int)
  rotate_left
  ·rw [if_neg c8] at H
   exact absurd H (by simp)
  rw [if_pos c8] at H
  have c8b0:=decide_eq_true c8
  clear c8
  simp only [Option.some.injEq,Prod.mk.injEq] at H
  obtain ⟨rfl,rfl⟩:=H
  go_enter Tryz.func105,Tryz.ntmps105
  go_wp2_with (first | ((with_reducible refine gate_callee (f:=45) rfl ?_);refine goesL_ (some 8) rfl rfl Tryz.func45 (by kernel_rfl) rfl #[.pointer (some ⟨g,0,none⟩),.int .i64 24] rfl q68_ ?_;(with_reducible refine (spec_l1Rd_once.calls g s0_0 s0_1 24 true t585 w0 _ ?side1 ?side2 A4.out).mono ?_);(case side1 => exact q152_);(case side2 => exact q148_);rintro e w9 ⟨rfl,hi,hb,hk⟩;refine ⟨_,rfl,?_⟩;have n0_:=Aside0.mk (KeepBut.trans q63_ hk (.inl rfl));have n1_:=Aside0.mk (hb);have n2_:=Aside0.mk (hi);clear HK;clear HB;clear HI0;have HK:=n0_;have HB:=n1_;have HI0:=n2_;clear n0_ n1_ n2_;(try clear hb);(try clear hk);(try clear hi)) | ((with_reducible refine gate_dst (N:=13) rfl ?_);refine Kd.R_lit (Kd.int .i64) _ 2 ?hg (N:=13) ?hd (xs:=([wrap64 (a1 - 1),wrap64 (a2 + 1),(-9223372036854775808),9223372036854775807]:List Int)) (inner:=[.int .i64 (wrap64 (a1 - 1)),.int .i64 (wrap64 (a2 + 1)),.int .i64 (-9223372036854775808),.int .i64 9223372036854775807]) (ok:=fun _ => True) (okp:=fun _ => True) ?hr ?hp (fun _ hk => hk) trivial (Below.refl _ _) (Nat.le_refl _) (by simp) ?_;(case hd => rfl);(case hg => rfl);(case hr => exact q153_);(case hp => exact (Reps.one (show Kd.M (Kd.int .i64) _ _ _ (wrap64 (a1 - 1)) [.int .i64 (wrap64 (a1 - 1))] from rfl) (Reps.one (show Kd.M (Kd.int .i64) _ _ _ (wrap64 (a2 + 1)) [.int .i64 (wrap64 (a2 + 1))] from rfl) (Reps.one (show Kd.M (Kd.int .i64) _ _ _ (-9223372036854775808) [.int .i64 (-9223372036854775808)] from rfl) (Reps.one (show Kd.M (Kd.int .i64) _ _ _ 9223372036854775807 [.int .i64 9223372036854775807] from rfl) (Reps.none _ _))))));intro v587 w10 ho11 hb hg_ hnew_;clear hg_ hnew_;(first | rw [← Ny586.out] at ho11 | (simp only [Int.reduceToNat] at ho11;rw [← Ny586.out] at ho11));have n0_:=Aside0.mk (Kd.R_lower ho11 (keep_size (w:=w) (g:=g) (row:=none) q63_));have n1_:=Aside0.mk (IsS96.below q62_ hb);have n2_:=Aside0.mk (KeepBut.trans q63_ (KeepBut.of_below hb g none) (.inl rfl));have n3_:=Aside0.mk (below_step q44_ hb);clear HI0;clear HK;clear HB;have HO588:=n0_;have HI0:=n1_;have HK:=n2_;have HB:=n3_;clear n0_ n1_ n2_ n3_;clear hb ho11) | ((with_reducible refine gate_callee (f:=44) rfl ?_);refine goesL_ (some 15) rfl rfl Tryz.func44 (by kernel_rfl) rfl #[.pointer (some ⟨g,0,none⟩),.int .i64 4] rfl q68_ ?_;(with_reducible refine (spec_l1Rd_below.calls g s0_0 t585 4 t589 t590 w0 _ ?side1 ?side2 A6.out).mono ?_);(case side1 => exact q152_);(case side2 => exact q148_);rintro e w12 ⟨rfl,hi,hb,hk⟩;refine ⟨_,rfl,?_⟩;have n0_:=Aside0.mk (Kd.R_mono (Kd.R_keep (IsS96.apart (show IsS96 w0 _ g s0_0 t585 from by repeat (first | (with_reducible first | exact HI0.out | apply IsS96.alloc | apply IsS96.drewN | apply IsS96.drew | apply IsS96.set_1) | exact HI0.out)) (by (with_reducible repeat (first | apply Kd.R_alloc | apply Kd.R_drewN | apply Kd.R_drew));exact HO588.out) (by decide)) hk (fun _ h => h.2)) (fun _ h => h.1));have n1_:=Aside0.mk (KeepBut.trans q63_ hk (.inl rfl));have n2_:=Aside0.mk (hb);have n3_:=Aside0.mk (hi);clear HO588;clear HK;clear HB;clear HI0;have HO588:=n0_;have HK:=n1_;have HB:=n2_;have HI0:=n3_;clear n0_ n1_ n2_ n3_;(try clear hb);(try clear hk);(try clear hi);obtain ⟨Ao13,co13,eo13⟩:=Kd.R_slice HO588.out;subst eo13;have p591:0 ≤ (t589:Int):=of_decide_eq_true q119_;have q591:t589 < (y586.length:Int):=of_decide_eq_true q119_;obtain ⟨ad591,e591,hx591_0⟩:=Kd.at_int (Kd.R_reads' HO588.out).2.2 t589 p591 q591;cases e591;replace p591:=eq_true p591;replace q591:=eq_true q591))
  go_ret
  exact ⟨q75_,q62_,q44_,q63_⟩
 replace c5:=Bool.eq_false_iff.mpr c5
 subst c5
 rewrite [if_neg (show ¬ (false = true) by decide)] at H
 replace H:=Option.bind_eq_some_iff.mp H
 obtain ⟨⟨t592,t593⟩,A140,H⟩:=H
 try dsimp -simprocs -eta only at H
 have A14:=Aside0.mk A140
 clear A140
 simp only [Option.some.injEq,Prod.mk.injEq] at H
 obtain ⟨rfl,rfl⟩:=H
 go_enter Tryz.func105,Tryz.ntmps105
 go_wp2_with (first | ((with_reducible refine gate_callee (f:=45) rfl ?_);refine goesL_ (some 8) rfl rfl Tryz.func45 (by kernel_rfl) rfl #[.pointer (some ⟨g,0,none⟩),.int .i64 24] rfl q68_ ?_;(with_reducible refine (spec_l1Rd_once.calls g s0_0 s0_1 24 false t585 w0 _ ?side1 ?side2 A4.out).mono ?_);(case side1 => exact q152_);(case side2 => exact q148_);rintro e w15 ⟨rfl,hi,hb,hk⟩;refine ⟨_,rfl,?_⟩;have n0_:=Aside0.mk (KeepBut.trans q63_ hk (.inl rfl));have n1_:=Aside0.mk (hb);have n2_:=Aside0.mk (hi);clear HK;clear HB;clear HI0;have HK:=n0_;have HB:=n1_;have HI0:=n2_;clear n0_ n1_ n2_;(try clear hb);(try clear hk);(try clear hi)) | ((with_reducible refine gate_callee (f:=134) rfl ?_);refine goesL_ (some 21) rfl rfl Tryz.func134 (by kernel_rfl) rfl #[.pointer (some ⟨g,0,none⟩),.int .i64 a1,.int .i64 a2] rfl q68_ ?_;(with_reducible refine (spec_l1Rd_near.calls k g s0_0 t585 a1 a2 t592 t593 w0 _ ?side1 ?side2 A14.out).mono ?_);(case side1 => exact q152_);(case side2 => exact q148_);rintro e w16 ⟨rfl,hi,hb,hk⟩;refine ⟨_,rfl,?_⟩;have n0_:=Aside0.mk (KeepBut.trans q63_ hk (.inl rfl));have n1_:=Aside0.mk (hb);have n2_:=Aside0.mk (hi);clear HK;clear HB;clear HI0;have HK:=n0_;have HB:=n1_;have HI0:=n2_;clear n0_ n1_ n2_;(try clear hb);(try clear hk);(try clear hi)))
 go_ret
 exact ⟨q75_,q62_,q44_,q63_⟩
mutual
def spec_l1Rd_ins.j1:Nat → List Int → Int → Int → Bool → Int → Option (Int × Bool × Int × Int)
 | 0,_,_,_,_,_ => none
 | k + 1,x1000,x1001,x600000,x600001,x600002 => (spec_l1Rd_once.f x1000 x1001 40).bind fun bt607 => (if bt607.1 = true then ((spec_l1Rd_off.f k x1000 bt607.2 0 255).bind fun bt609 => (some (x600000,x600001,bt609.1,bt609.2))) else (some (x600000,x600001,x600002,bt607.2)))
def spec_l1Rd_ins.j0:Nat → Bool → List Int → Int → Int → Bool → Int → Option (Int × Bool × Int × Int)
 | 0,_,_,_,_,_,_ => none
 | k + 1,x26,x1000,x1001,x600000,x600001,x600002 => if x26 = true then ((spec_l1Rd_byte.f x1000 x1001).bind fun bt605 => (spec_l1Rd_ins.j1 k x1000 bt605.2 x600000 x600001 bt605.1)) else (spec_l1Rd_ins.j1 k x1000 x1001 x600000 x600001 x600002)
end
def spec_l1Rd_ins.f (k:Nat) (s0_0:List Int) (s0_1:Int):Option (Int × Bool × Int × Int):=(spec_l1Rd_below.f s0_0 s0_1 256).bind fun bt595 => ((spec_l1Rd_once.f s0_0 bt595.2 4).bind fun bt597 => ((spec_l3Template.f k bt595.1 bt597.1).bind fun t600 => ((spec_l3Hole.f k t600).bind fun bt601 => (if bt601.2.toList = ([110,49,54]:List UInt8) then ((spec_l1Rd_below.f s0_0 bt597.2 65536).bind fun bt603 => (spec_l1Rd_ins.j1 k s0_0 bt603.2 bt595.1 bt597.1 bt603.1)) else (if bt601.2.toList = ([110,56]:List UInt8) then (spec_l1Rd_ins.j0 k (bt601.2.toList == ([110,56]:List UInt8)) s0_0 bt597.2 bt595.1 bt597.1 0) else (spec_l1Rd_ins.j0 k (bt601.2.toList == ([101,56]:List UInt8)) s0_0 bt597.2 bt595.1 bt597.1 0))))))
theorem spec_l1Rd_ins.calls (k:Nat) (g:Nat) (s0_0:List Int) (s0_1:Int) (r1:Int) (r2:Bool) (r3:Int) (r4:Int) (w0 w:World) (hI:IsS96 w0 w g s0_0 s0_1) (hB:Below w0.heap.size w0 w) (h:spec_l1Rd_ins.f k s0_0 s0_1 = some (r1,r2,r3,r4)) :
  Calls Tryz.prog 62 #[.pointer (some ⟨g,0,none⟩)] w fun e w' => e = .returned (.agg #[.int .i64 r1,.bool r2,.int .i64 r3]) ∧ IsS96 w0 w' g s0_0 r4 ∧ Below w0.heap.size w0 w' ∧ KeepBut w w' g none:=by
 have hu30:=Tryz.underlying30
 have HI0:=Aside0.mk hI
 have HK:=Aside0.mk (KeepBut.refl w g none)
 have HL:=Aside0.mk hB.size
 clear hI
 have HW0:=Aside0.mk hB.size
 have HB:=Aside0.mk hB
 clear hB
 have H:=h;unfold spec_l1Rd_ins.f at H
 clear h
 replace H:=Option.bind_eq_some_iff.mp H
 obtain ⟨⟨t595,t596⟩,A20,H⟩:=H
 try dsimp -simprocs -eta only at H
 have A2:=Aside0.mk A20
 clear A20
 replace H:=Option.bind_eq_some_iff.mp H
 obtain ⟨⟨t597,t598⟩,A30,H⟩:=H
 try dsimp -simprocs -eta only at H
 have A3:=Aside0.mk A30
 clear A30
 replace H:=Option.bind_eq_some_iff.mp H
 obtain ⟨t600,A40,H⟩:=H
 have A4:=Aside0.mk A40
 clear A40
 replace H:=Option.bind_eq_some_iff.mp H
 obtain ⟨⟨t601,t602⟩,A50,H⟩:=H
 try dsimp -simprocs -eta only at H
 have A5:=Aside0.mk A50
 clear A50
 have HC6:=Aside0.mk H
 clear H
 go_enter Tryz.func62,Tryz.ntmps62
 go_upto_block 0 with (first | ((with_reducible refine gate_dst (N:=2) rfl ?_);refine box_event ?hg (N:=2) ?hd (cs:=#[.int .i64 0,.bool false,.int .i64 0]) (t:=30) ?hr ?_;(case hd => rfl);(case hg => rfl);(case hr => exact q153_);intro gb594 hg w7 hbox hb;have n0_:=Aside0.mk (IsS96.below q62_ hb);have n1_:=Aside0.mk (KeepBut.trans q63_ (KeepBut.of_below hb g none) (.inl rfl));have n2_:=Aside0.mk (below_step q44_ hb);have n3_:=Aside0.mk (hbox);have n4_:=Aside0.mk ((q26_:w.heap.size ≤ gb594));have n5_:=Aside0.mk ((Nat.le_trans HW0.out (q26_:w.heap.size ≤ gb594):w0.heap.size ≤ gb594));have n6_:=Aside0.mk ((q20_:g ≠ gb594));have n7_:=Aside0.mk ((q21_:gb594 ≠ g));clear HI0;clear HK;clear HB;have HI0:=n0_;have HK:=n1_;have HB:=n2_;have BK594:=n3_;have GW594:=n4_;have GE594:=n5_;have NB0_594:=n6_;have NB594_0:=n7_;clear n0_ n1_ n2_ n3_ n4_ n5_ n6_ n7_;clear hb hbox hg) | ((with_reducible refine gate_callee (f:=44) rfl ?_);refine goesL_ (some 7) rfl rfl Tryz.func44 (by kernel_rfl) rfl #[.pointer (some ⟨g,0,none⟩),.int .i64 256] rfl q68_ ?_;(with_reducible refine (spec_l1Rd_below.calls g s0_0 s0_1 256 t595 t596 w0 _ ?side1 ?side2 A2.out).mono ?_);(case side1 => exact q145_);(case side2 => exact q144_);rintro e w8 ⟨rfl,hi,hb,hk⟩;refine ⟨_,rfl,?_⟩;have n0_:=Aside0.mk (KeepBut.blk hk (g':=gb594) (o:=.cells #[.int .i64 0,.bool false,.int .i64 0] 30 (0,0)) q87_ NB594_0.out (by simp));have n1_:=Aside0.mk (KeepBut.trans q39_ hk (.inl rfl));have n2_:=Aside0.mk (hb);have n3_:=Aside0.mk (hi);clear BK594;clear HK;clear HB;clear HI0;have BK594:=n0_;have HK:=n1_;have HB:=n2_;have HI0:=n3_;clear n0_ n1_ n2_ n3_;(try clear hb);(try clear hk);(try clear hi)) | ((with_reducible refine gate_callee (f:=45) rfl ?_);refine goesL_ (some 9) rfl rfl Tryz.func45 (by kernel_rfl) rfl #[.pointer (some ⟨g,0,none⟩),.int .i64 4] rfl q68_ ?_;(with_reducible refine (spec_l1Rd_once.calls g s0_0 t596 4 t597 t598 w0 _ ?side1 ?side2 A3.out).mono ?_);(case side1 => exact q145_);(case side2 => exact q144_);rintro e w9 ⟨rfl,hi,hb,hk⟩;refine ⟨_,rfl,?_⟩;have n0_:=Aside0.mk (KeepBut.blk hk (g':=gb594) (o:=.cells #[.int .i64 0,.bool false,.int .i64 0] 30 (0,0)) q87_ NB594_0.out (by simp));have n1_:=Aside0.mk (KeepBut.trans q39_ hk (.inl rfl));have n2_:=Aside0.mk (hb);have n3_:=Aside0.mk (hi);clear BK594;clear HK;clear HB;clear HI0;have BK594:=n0_;have HK:=n1_;have HB:=n2_;have HI0:=n3_;clear n0_ n1_ n2_ n3_;(try clear hb);(try clear hk);(try clear hi)) | ((with_reducible refine gate_dst (N:=3) rfl ?_);refine box_event ?hg (N:=3) ?hd (cs:=#[.int .i64 0,.bool false,.int .i64 0]) (t:=30) ?hr ?_;(case hd => rfl);(case hg => rfl);(case hr => exact q153_);intro gb599 hg w10 hbox hb;have n0_:=Aside0.mk (IsS96.below (by repeat (first | (with_reducible first | exact HI0.out | apply IsS96.alloc | apply IsS96.drewN | apply IsS96.drew | apply IsS96.set_1 | refine IsS96.far ?_ NB0_594.out _) | exact HI0.out)) hb);have n1_:=Aside0.mk (blk_below (g:=gb594) (o:=.cells #[.int .i64 0,.bool false,.int .i64 0] 30 (0,0)) q87_ hb);have n2_:=Aside0.mk (KeepBut.trans q39_ (KeepBut.of_below hb g none) (.inl rfl));have n3_:=Aside0.mk (below_step (by repeat (first | (with_reducible first | exact HB.out | apply below_alloc | apply pw_below_drewN | apply below_drew1 | refine below_set ?_ (IsS96.ge HI0.out) | refine below_set ?_ GE594.out) | exact HB.out)) hb);have n4_:=Aside0.mk (hbox);have n5_:=Aside0.mk ((q12_:w.heap.size ≤ gb599));have n6_:=Aside0.mk ((Nat.le_trans HW0.out (q12_:w.heap.size ≤ gb599):w0.heap.size ≤ gb599));have n7_:=Aside0.mk ((by rw [hg];exact Nat.ne_of_lt (blk_lt (g:=gb594) (o:=.cells #[.int .i64 0,.bool false,.int .i64 0] 30 (0,0)) q87_):gb594 ≠ gb599));have n8_:=Aside0.mk ((by rw [hg];exact Nat.ne_of_gt (blk_lt (g:=gb594) (o:=.cells #[.int .i64 0,.bool false,.int .i64 0] 30 (0,0)) q87_):gb599 ≠ gb594));have n9_:=Aside0.mk ((by rw [hg];exact Nat.ne_of_lt (IsS96.lt (show IsS96 w0 _ g s0_0 t598 from by repeat (first | (with_reducible first | exact HI0.out | apply IsS96.alloc | apply IsS96.drewN | apply IsS96.drew | apply IsS96.set_1 | refine IsS96.far ?_ NB0_594.out _) | exact HI0.out))):g ≠ gb599));have n10_:=Aside0.mk ((by rw [hg];exact Nat.ne_of_gt (IsS96.lt (show IsS96 w0 _ g s0_0 t598 from by repeat (first | (with_reducible first | exact HI0.out | apply IsS96.alloc | apply IsS96.drewN | apply IsS96.drew | apply IsS96.set_1 | refine IsS96.far ?_ NB0_594.out _) | exact HI0.out))):gb599 ≠ g));clear HI0;clear BK594;clear HK;clear HB;have HI0:=n0_;have BK594:=n1_;have HK:=n2_;have HB:=n3_;have BK599:=n4_;have GW599:=n5_;have GE599:=n6_;have NB594_599:=n7_;have NB599_594:=n8_;have NB0_599:=n9_;have NB599_0:=n10_;clear n0_ n1_ n2_ n3_ n4_ n5_ n6_ n7_ n8_ n9_ n10_;clear hb hbox hg;have hnb11:=NB599_594.out;have hnc11:=NB594_599.out;have hnb12:=NB599_0.out;have hnc12:=NB0_599.out;have hcz13_0:w10.cell? ⟨gb599,0,none⟩ = some (.int .i64 0):=(blk_cell BK599.out 0).trans rfl;have hcz13_1:w10.cell? ⟨gb599,1,none⟩ = some (.bool false):=(blk_cell BK599.out 1).trans rfl;have hcz13_2:w10.cell? ⟨gb599,2,none⟩ = some (.int .i64 0):=(blk_cell BK599.out 2).trans rfl;have hfz13_0:=blk_frozen BK599.out 0;have hfz13_1:=blk_frozen BK599.out 1;have hfz13_2:=blk_frozen BK599.out 2) | ((with_reducible refine gate_callee (f:=60) rfl ?_);refine goesL_ (some 16) rfl rfl Tryz.func60 (by kernel_rfl) rfl #[.int .i64 t595,.bool t597] rfl q68_ ?_;(with_reducible refine (spec_l3Template.calls k t595 t597 t600 _ A4.out).mono ?_);rintro e w14 ⟨rfl,hb⟩;refine ⟨_,rfl,?_⟩;have n0_:=Aside0.mk (IsS96.below (show IsS96 w0 (((w10.setCell ⟨gb599,0,none⟩ (.int .i64 t595)).setCell ⟨gb599,1,none⟩ (.bool t597)).setCell ⟨gb599,2,none⟩ (.int .i64 0)) g s0_0 t598 from by repeat (first | (with_reducible first | exact HI0.out | apply IsS96.alloc | apply IsS96.drewN | apply IsS96.drew | apply IsS96.set_1 | refine IsS96.far ?_ NB0_594.out _ | refine IsS96.far ?_ NB0_599.out _) | exact HI0.out)) hb);have n1_:=Aside0.mk (blk_below (g:=gb594) (o:=.cells #[.int .i64 0,.bool false,.int .i64 0] 30 (0,0)) (by (with_reducible repeat (first | refine blk_drewN ?_ _ | refine blk_drew ?_ | refine blk_alloc ?_ _));refine blk_far ?_ NB594_599.out _;(with_reducible repeat (first | refine blk_drewN ?_ _ | refine blk_drew ?_ | refine blk_alloc ?_ _));refine blk_far ?_ NB594_599.out _;(with_reducible repeat (first | refine blk_drewN ?_ _ | refine blk_drew ?_ | refine blk_alloc ?_ _));refine blk_far ?_ NB594_599.out _;(with_reducible repeat (first | refine blk_drewN ?_ _ | refine blk_drew ?_ | refine blk_alloc ?_ _));exact BK594.out) hb);have n2_:=Aside0.mk (blk_below (g:=gb599) (o:=.cells #[.int .i64 t595,.bool t597,.int .i64 0] 30 (0,0)) (by (with_reducible repeat (first | refine blk_drewN ?_ _ | refine blk_drew ?_ | refine blk_alloc ?_ _));refine blk_put (cs:=#[.int .i64 t595,.bool t597,.int .i64 0]) ?_ 2 _ rfl;(with_reducible repeat (first | refine blk_drewN ?_ _ | refine blk_drew ?_ | refine blk_alloc ?_ _));refine blk_put (cs:=#[.int .i64 t595,.bool false,.int .i64 0]) ?_ 1 _ rfl;(with_reducible repeat (first | refine blk_drewN ?_ _ | refine blk_drew ?_ | refine blk_alloc ?_ _));refine blk_put (cs:=#[.int .i64 0,.bool false,.int .i64 0]) ?_ 0 _ rfl;(with_reducible repeat (first | refine blk_drewN ?_ _ | refine blk_drew ?_ | refine blk_alloc ?_ _));exact BK599.out) hb);have n3_:=Aside0.mk (KeepBut.trans q24_ (KeepBut.of_below hb g none) (.inl rfl));have n4_:=Aside0.mk (below_step q16_ hb);clear HI0;clear BK594;clear BK599;clear HK;clear HB;have HI0:=n0_;have BK594:=n1_;have BK599:=n2_;have HK:=n3_;have HB:=n4_;clear n0_ n1_ n2_ n3_ n4_;(try clear hb)) | ((with_reducible refine gate_callee (f:=59) rfl ?_);refine goesL_ (some 17) rfl rfl Tryz.func59 (by kernel_rfl) rfl #[.string t600] rfl q68_ ?_;(with_reducible refine (spec_l3Hole.calls k t600 t601 t602 _ A5.out).mono ?_);rintro e w15 ⟨rfl,hb⟩;refine ⟨_,rfl,?_⟩;have n0_:=Aside0.mk (IsS96.below q22_ hb);have n1_:=Aside0.mk (blk_below (g:=gb594) (o:=.cells #[.int .i64 0,.bool false,.int .i64 0] 30 (0,0)) q87_ hb);have n2_:=Aside0.mk (blk_below (g:=gb599) (o:=.cells #[.int .i64 t595,.bool t597,.int .i64 0] 30 (0,0)) q88_ hb);have n3_:=Aside0.mk (KeepBut.trans q24_ (KeepBut.of_below hb g none) (.inl rfl));have n4_:=Aside0.mk (below_step q16_ hb);clear HI0;clear BK594;clear BK599;clear HK;clear HB;have HI0:=n0_;have BK594:=n1_;have BK599:=n2_;have HK:=n3_;have HB:=n4_;clear n0_ n1_ n2_ n3_ n4_;(try clear hb)))
 (try simp only [Act.put,List.setIfInBounds_toArray,List.set_cons_zero,List.set_cons_succ])
 go_cut [] (fun wc => ∃ (kq:Nat) (x1001_5:Int) (x600002_5:Int),Aside0 (spec_l1Rd_ins.j1 kq s0_0 x1001_5 t595 t597 x600002_5 = some (r1,r2,r3,r4)) ∧ Aside0 (kq ≤ k) ∧ Aside0 (wc.heap[gb594]? = some (.cells #[.int .i64 0,.bool false,.int .i64 0] 30 (0,0))) ∧ Aside0 (wc.heap[gb599]? = some (.cells #[.int .i64 t595,.bool t597,.int .i64 x600002_5] 30 (0,0))) ∧ Aside0 (IsS96 w0 wc g s0_0 x1001_5) ∧ Aside0 (KeepBut w wc g none) ∧ Aside0 (Below w0.heap.size w0 wc))
 case first =>
  have H:=HC6.out
  clear HC6
  by_cases c16:t602.toList = ([110,49,54]:List UInt8)
  ·rw [if_pos c16] at H
   have c16b0:(t602.toList == ([110,49,54]:List UInt8)) = true:=beq_iff_eq.mpr c16
   have c16b1:(t602.toList != ([110,49,54]:List UInt8)) = false:=bne_eq_false_iff_eq.mpr c16
   clear c16
   (first | rw [c16b0] | (simp only [i64_w,i32_w];rw [c16b0]) | skip)
   replace H:=Option.bind_eq_some_iff.mp H
   obtain ⟨⟨t603,t604⟩,A170,H⟩:=H
   try dsimp -simprocs -eta only at H
   have A17:=Aside0.mk A170
   clear A170
   have H':=Aside0.mk H
   clear H
   go_wp2_with (first | ((with_reducible refine gate_callee (f:=44) rfl ?_);refine goesL_ (some 24) rfl rfl Tryz.func44 (by kernel_rfl) rfl #[.pointer (some ⟨g,0,none⟩),.int .i64 65536] rfl q68_ ?_;(with_reducible refine (spec_l1Rd_below.calls g s0_0 t598 65536 t603 t604 w0 _ ?side1 ?side2 A17.out).mono ?_);(case side1 => exact q142_);(case side2 => exact q140_);rintro e w18 ⟨rfl,hi,hb,hk⟩;refine ⟨_,rfl,?_⟩;have n0_:=Aside0.mk (KeepBut.blk hk (g':=gb594) (o:=.cells #[.int .i64 0,.bool false,.int .i64 0] 30 (0,0)) q87_ NB594_0.out (by simp));have n1_:=Aside0.mk (KeepBut.blk hk (g':=gb599) (o:=.cells #[.int .i64 t595,.bool t597,.int .i64 0] 30 (0,0)) q88_ NB599_0.out (by simp));have n2_:=Aside0.mk (KeepBut.trans q24_ hk (.inl rfl));have n3_:=Aside0.mk (hb);have n4_:=Aside0.mk (hi);clear BK594;clear BK599;clear HK;clear HB;clear HI0;have BK594:=n0_;have BK599:=n1_;have HK:=n2_;have HB:=n3_;have HI0:=n4_;clear n0_ n1_ n2_ n3_ n4_;(try clear hb);(try clear hk);(try clear hi);have hnb19:=NB599_594.out;have hnc19:=NB594_599.out;have hnb20:=NB599_0.out;have hnc20:=NB0_599.out;have hcz21_0:w18.cell? ⟨gb599,0,none⟩ = some (.int .i64 t595):=(blk_cell BK599.out 0).trans rfl;have hcz21_1:w18.cell? ⟨gb599,1,none⟩ = some (.bool t597):=(blk_cell BK599.out 1).trans rfl;have hcz21_2:w18.cell? ⟨gb599,2,none⟩ = some (.int .i64 0):=(blk_cell BK599.out 2).trans rfl;have hfz21_0:=blk_frozen BK599.out 0;have hfz21_1:=blk_frozen BK599.out 1;have hfz21_2:=blk_frozen BK599.out 2))
   go_meet
   case rel => exact ⟨_,(t604),(t603),H',⟨q132_⟩,⟨q11_⟩,⟨q6_⟩,⟨q22_⟩,⟨q24_⟩,⟨q16_⟩⟩
  rw [if_neg c16] at H
  have c16b0:(t602.toList == ([110,49,54]:List UInt8)) = false:=beq_eq_false_iff_ne.mpr c16
  have c16b1:(t602.toList != ([110,49,54]:List UInt8)) = true:=bne_iff_ne.mpr c16
  (first | rw [c16b0] | (simp only [i64_w,i32_w];rw [c16b0]) | skip)
  have HC22:=Aside0.mk H
  clear H
  go_upto_if 26 with (fail)
  go_cut [26] (fun v26 wc => ∃ (kq:Nat) (x26_21:Bool),v26 = .bool x26_21 ∧ Aside0 (spec_l1Rd_ins.j0 kq x26_21 s0_0 t598 t595 t597 0 = some (r1,r2,r3,r4)) ∧ Aside0 (kq ≤ k) ∧ Aside0 (wc.heap[gb594]? = some (.cells #[.int .i64 0,.bool false,.int .i64 0] 30 (0,0))) ∧ Aside0 (wc.heap[gb599]? = some (.cells #[.int .i64 t595,.bool t597,.int .i64 0] 30 (0,0))) ∧ Aside0 (IsS96 w0 wc g s0_0 t598) ∧ Aside0 (KeepBut w wc g none) ∧ Aside0 (Below w0.heap.size w0 wc))
  case first =>
   have H:=HC22.out
   clear HC22
   by_cases c23:t602.toList = ([110,56]:List UInt8)
   ·rw [if_pos c23] at H
    have c23b0:(t602.toList == ([110,56]:List UInt8)) = true:=beq_iff_eq.mpr c23
    have c23b1:(t602.toList != ([110,56]:List UInt8)) = false:=bne_eq_false_iff_eq.mpr c23
    clear c23
    (first | rw [c23b0] | (simp only [i64_w,i32_w];rw [c23b0]) | skip)
    have H':=Aside0.mk H
    clear H
    go_wp2
    go_meet
    case rel => exact ⟨_,((t602.toList == ([110,56]:List UInt8))),q94_,H',⟨q132_⟩,⟨q87_⟩,⟨q88_⟩,⟨q22_⟩,⟨q24_⟩,⟨q16_⟩⟩
   rw [if_neg c23] at H
   have c23b0:(t602.toList == ([110,56]:List UInt8)) = false:=beq_eq_false_iff_ne.mpr c23
   have c23b1:(t602.toList != ([110,56]:List UInt8)) = true:=bne_iff_ne.mpr c23
   (first | rw [c23b0] | (simp only [i64_w,i32_w];rw [c23b0]) | skip)
   have H':=Aside0.mk H
   clear H
   go_wp2
   go_meet
   case rel => exact ⟨_,((t602.toList == ([101,56]:List UInt8))),q94_,H',⟨q132_⟩,⟨q87_⟩,⟨q88_⟩,⟨q22_⟩,⟨q24_⟩,⟨q16_⟩⟩
  clear HC22
  try clear c1
  try clear c2
  try clear p2
  try clear c4
  try clear c5
  try clear c6
  try clear p6
  try clear c11
  try clear c12
  try clear c16
  try clear c16b0
  try clear c16b1
  try clear c19
  try clear c20
  try clear c23
  try clear c23b0
  try clear c23b1
  try clear hcz13_0 hcz13_1 hcz13_2
  try clear hcz21_0 hcz21_1 hcz21_2
  try clear hfz13_0 hfz13_1 hfz13_2
  try clear hfz21_0 hfz21_1 hfz21_2
  obtain ⟨kq,x26_21,rfl,HA,HJ21,BK594,BK599,HI0,HK,HB⟩:=hcut
  cases kq with
  | zero => exact absurd HA.out (by simp [spec_l1Rd_ins.j0])
  | succ kj21 =>
   have H:=HA.out
   clear HA
   simp only [spec_l1Rd_ins.j0] at H
   by_cases c24:x26_21 = true
   ·subst c24
    rewrite [if_pos rfl] at H
    replace H:=Option.bind_eq_some_iff.mp H
    obtain ⟨⟨t605,t606⟩,A250,H⟩:=H
    try dsimp -simprocs -eta only at H
    have A25:=Aside0.mk A250
    clear A250
    have H':=Aside0.mk H
    clear H
    go_wp2_with (first | ((with_reducible refine gate_callee (f:=104) rfl ?_);refine goesL_ (some 30) rfl rfl Tryz.func104 (by kernel_rfl) rfl #[.pointer (some ⟨g,0,none⟩)] rfl q68_ ?_;(with_reducible refine (spec_l1Rd_byte.calls g s0_0 t598 t605 t606 w0 _ ?side1 ?side2 A25.out).mono ?_);(case side1 => exact q142_);(case side2 => exact q140_);rintro e w26 ⟨rfl,hi,hb,hk⟩;refine ⟨_,rfl,?_⟩;have n0_:=Aside0.mk (KeepBut.blk hk (g':=gb594) (o:=.cells #[.int .i64 0,.bool false,.int .i64 0] 30 (0,0)) q87_ NB594_0.out (by simp));have n1_:=Aside0.mk (KeepBut.blk hk (g':=gb599) (o:=.cells #[.int .i64 t595,.bool t597,.int .i64 0] 30 (0,0)) q88_ NB599_0.out (by simp));have n2_:=Aside0.mk (KeepBut.trans q24_ hk (.inl rfl));have n3_:=Aside0.mk (hb);have n4_:=Aside0.mk (hi);clear BK594;clear BK599;clear HK;clear HB;clear HI0;have BK594:=n0_;have BK599:=n1_;have HK:=n2_;have HB:=n3_;have HI0:=n4_;clear n0_ n1_ n2_ n3_ n4_;(try clear hb);(try clear hk);(try clear hi);have hnb27:=NB599_594.out;have hnc27:=NB594_599.out;have hnb28:=NB599_0.out;have hnc28:=NB0_599.out;have hcz29_0:w26.cell? ⟨gb599,0,none⟩ = some (.int .i64 t595):=(blk_cell BK599.out 0).trans rfl;have hcz29_1:w26.cell? ⟨gb599,1,none⟩ = some (.bool t597):=(blk_cell BK599.out 1).trans rfl;have hcz29_2:w26.cell? ⟨gb599,2,none⟩ = some (.int .i64 0):=(blk_cell BK599.out 2).trans rfl;have hfz29_0:=blk_frozen BK599.out 0;have hfz29_1:=blk_frozen BK599.out 1;have hfz29_2:=blk_frozen BK599.out 2))
    go_meet
    case rel => exact ⟨_,(t606),(t605),H',⟨by have:=HJ21.out;first | omega | exact Nat.le_refl _⟩,⟨q11_⟩,⟨q6_⟩,⟨q22_⟩,⟨q24_⟩,⟨q16_⟩⟩
   replace c24:=Bool.eq_false_iff.mpr c24
   subst c24
   rewrite [if_neg (show ¬ (false = true) by decide)] at H
   have H':=Aside0.mk H
   clear H
   go_wp2
   go_meet
   case rel => exact ⟨_,(t598),(0),H',⟨by have:=HJ21.out;first | omega | exact Nat.le_refl _⟩,⟨q87_⟩,⟨q88_⟩,⟨q22_⟩,⟨q24_⟩,⟨q16_⟩⟩
 clear HC6
 try clear c1
 try clear c2
 try clear p2 p2
 try clear c4
 try clear c5
 try clear c6
 try clear p6 p6
 try clear c10
 try clear c11
 try clear c12
 try clear c16
 try clear c16b0
 try clear c16b1
 try clear c19
 try clear c20
 try clear c23
 try clear c23b0
 try clear c23b1
 try clear c24
 try clear c27
 try clear c28
 try clear hcz13_0 hcz13_1 hcz13_2
 try clear hcz21_0 hcz21_1 hcz21_2
 try clear hcz29_0 hcz29_1 hcz29_2
 try clear hfz13_0 hfz13_1 hfz13_2
 try clear hfz21_0 hfz21_1 hfz21_2
 try clear hfz29_0 hfz29_1 hfz29_2
 obtain ⟨kq,x1001_5,x600002_5,HA,HJ5,BK594,BK599,HI0,HK,HB⟩:=hcut
 cases kq with
 | zero => exact absurd HA.out (by simp [spec_l1Rd_ins.j1])
 | succ kj5 =>
  have H:=HA.out
  clear HA
  simp only [spec_l1Rd_ins.j1] at H
  replace H:=Option.bind_eq_some_iff.mp H
  obtain ⟨⟨t607,t608⟩,A300,H⟩:=H
  try dsimp -simprocs -eta only at H
  have A30:=Aside0.mk A300
  clear A300
  by_cases c31:t607 = true
  ·subst c31
   rewrite [if_pos rfl] at H
   replace H:=Option.bind_eq_some_iff.mp H
   obtain ⟨⟨t609,t610⟩,A320,H⟩:=H
   try dsimp -simprocs -eta only at H
   have A32:=Aside0.mk A320
   clear A320
   simp only [Option.some.injEq,Prod.mk.injEq] at H
   obtain ⟨rfl,rfl,rfl,rfl⟩:=H
   go_wp2_with (first | ((with_reducible refine gate_callee (f:=45) rfl ?_);refine goesL_ (some 33) rfl rfl Tryz.func45 (by kernel_rfl) rfl #[.pointer (some ⟨g,0,none⟩),.int .i64 40] rfl q68_ ?_;(with_reducible refine (spec_l1Rd_once.calls g s0_0 x1001_5 40 true t608 w0 _ ?side1 ?side2 A30.out).mono ?_);(case side1 => exact q142_);(case side2 => exact q140_);rintro e w33 ⟨rfl,hi,hb,hk⟩;refine ⟨_,rfl,?_⟩;have n0_:=Aside0.mk (KeepBut.blk hk (g':=gb594) (o:=.cells #[.int .i64 0,.bool false,.int .i64 0] 30 (0,0)) q87_ NB594_0.out (by simp));have n1_:=Aside0.mk (KeepBut.blk hk (g':=gb599) (o:=.cells #[.int .i64 t595,.bool t597,.int .i64 x600002_5] 30 (0,0)) q88_ NB599_0.out (by simp));have n2_:=Aside0.mk (KeepBut.trans q24_ hk (.inl rfl));have n3_:=Aside0.mk (hb);have n4_:=Aside0.mk (hi);clear BK594;clear BK599;clear HK;clear HB;clear HI0;have BK594:=n0_;have BK599:=n1_;have HK:=n2_;have HB:=n3_;have HI0:=n4_;clear n0_ n1_ n2_ n3_ n4_;(try clear hb);(try clear hk);(try clear hi)) | ((with_reducible refine gate_callee (f:=105) rfl ?_);refine goesL_ (some 35) rfl rfl Tryz.func105 (by kernel_rfl) rfl #[.pointer (some ⟨g,0,none⟩),.int .i64 0,.int .i64 255] rfl q68_ ?_;(with_reducible refine (spec_l1Rd_off.calls kj5 g s0_0 t608 0 255 t609 t610 w0 _ ?side1 ?side2 A32.out).mono ?_);(case side1 => exact q142_);(case side2 => exact q140_);rintro e w34 ⟨rfl,hi,hb,hk⟩;refine ⟨_,rfl,?_⟩;have n0_:=Aside0.mk (KeepBut.blk hk (g':=gb594) (o:=.cells #[.int .i64 0,.bool false,.int .i64 0] 30 (0,0)) q87_ NB594_0.out (by simp));have n1_:=Aside0.mk (KeepBut.blk hk (g':=gb599) (o:=.cells #[.int .i64 t595,.bool t597,.int .i64 x600002_5] 30 (0,0)) q88_ NB599_0.out (by simp));have n2_:=Aside0.mk (KeepBut.trans q24_ hk (.inl rfl));have n3_:=Aside0.mk (hb);have n4_:=Aside0.mk (hi);clear BK594;clear BK599;clear HK;clear HB;clear HI0;have BK594:=n0_;have BK599:=n1_;have HK:=n2_;have HB:=n3_;have HI0:=n4_;clear n0_ n1_ n2_ n3_ n4_;(try clear hb);(try clear hk);(try clear hi);have hnb35:=NB599_594.out;have hnc35:=NB594_599.out;have hnb36:=NB599_0.out;have hnc36:=NB0_599.out;have hcz37_0:w34.cell? ⟨gb599,0,none⟩ = some (.int .i64 t595):=(blk_cell BK599.out 0).trans rfl;have hcz37_1:w34.cell? ⟨gb599,1,none⟩ = some (.bool t597):=(blk_cell BK599.out 1).trans rfl;have hcz37_2:w34.cell? ⟨gb599,2,none⟩ = some (.int .i64 x600002_5):=(blk_cell BK599.out 2).trans rfl;have hfz37_0:=blk_frozen BK599.out 0;have hfz37_1:=blk_frozen BK599.out 1;have hfz37_2:=blk_frozen BK599.out 2;have hnb38:=NB594_0.out;have hnc38:=NB0_594.out;have hcz39_0:w34.cell? ⟨gb594,0,none⟩ = some (.int .i64 0):=(blk_cell BK594.out 0).trans rfl;have hcz39_1:w34.cell? ⟨gb594,1,none⟩ = some (.bool false):=(blk_cell BK594.out 1).trans rfl;have hcz39_2:w34.cell? ⟨gb594,2,none⟩ = some (.int .i64 0):=(blk_cell BK594.out 2).trans rfl;have hfz39_0:=blk_frozen BK594.out 0;have hfz39_1:=blk_frozen BK594.out 1;have hfz39_2:=blk_frozen BK594.out 2))
   refine bodyPost_ret (results_cell_row rfl _ _ gb594 30 #[.int .i64 t595,.bool t597,.int .i64 t609] (0,0) _ rfl (by (with_reducible repeat (first | refine blk_drewN ?_ _ | refine blk_drew ?_ | refine blk_alloc ?_ _));refine blk_put (cs:=#[.int .i64 t595,.bool t597,.int .i64 0]) ?_ 2 _ rfl;(with_reducible repeat (first | refine blk_drewN ?_ _ | refine blk_drew ?_ | refine blk_alloc ?_ _));refine blk_put (cs:=#[.int .i64 t595,.bool false,.int .i64 0]) ?_ 1 _ rfl;(with_reducible repeat (first | refine blk_drewN ?_ _ | refine blk_drew ?_ | refine blk_alloc ?_ _));refine blk_put (cs:=#[.int .i64 0,.bool false,.int .i64 0]) ?_ 0 _ rfl;(with_reducible repeat (first | refine blk_drewN ?_ _ | refine blk_drew ?_ | refine blk_alloc ?_ _));refine blk_far ?_ NB594_599.out _;(with_reducible repeat (first | refine blk_drewN ?_ _ | refine blk_drew ?_ | refine blk_alloc ?_ _));exact BK594.out) Tryz.underlying30 rfl (by kernel_rfl)) rfl ?_
   exact ⟨q75_,q22_,q16_,q24_⟩
  replace c31:=Bool.eq_false_iff.mpr c31
  subst c31
  rewrite [if_neg (show ¬ (false = true) by decide)] at H
  simp only [Option.some.injEq,Prod.mk.injEq] at H
  obtain ⟨rfl,rfl,rfl,rfl⟩:=H
  go_wp2_with (first | ((with_reducible refine gate_callee (f:=45) rfl ?_);refine goesL_ (some 33) rfl rfl Tryz.func45 (by kernel_rfl) rfl #[.pointer (some ⟨g,0,none⟩),.int .i64 40] rfl q68_ ?_;(with_reducible refine (spec_l1Rd_once.calls g s0_0 x1001_5 40 false t608 w0 _ ?side1 ?side2 A30.out).mono ?_);(case side1 => exact q142_);(case side2 => exact q140_);rintro e w40 ⟨rfl,hi,hb,hk⟩;refine ⟨_,rfl,?_⟩;have n0_:=Aside0.mk (KeepBut.blk hk (g':=gb594) (o:=.cells #[.int .i64 0,.bool false,.int .i64 0] 30 (0,0)) q87_ NB594_0.out (by simp));have n1_:=Aside0.mk (KeepBut.blk hk (g':=gb599) (o:=.cells #[.int .i64 t595,.bool t597,.int .i64 x600002_5] 30 (0,0)) q88_ NB599_0.out (by simp));have n2_:=Aside0.mk (KeepBut.trans q24_ hk (.inl rfl));have n3_:=Aside0.mk (hb);have n4_:=Aside0.mk (hi);clear BK594;clear BK599;clear HK;clear HB;clear HI0;have BK594:=n0_;have BK599:=n1_;have HK:=n2_;have HB:=n3_;have HI0:=n4_;clear n0_ n1_ n2_ n3_ n4_;(try clear hb);(try clear hk);(try clear hi);have hnb41:=NB599_594.out;have hnc41:=NB594_599.out;have hnb42:=NB599_0.out;have hnc42:=NB0_599.out;have hcz43_0:w40.cell? ⟨gb599,0,none⟩ = some (.int .i64 t595):=(blk_cell BK599.out 0).trans rfl;have hcz43_1:w40.cell? ⟨gb599,1,none⟩ = some (.bool t597):=(blk_cell BK599.out 1).trans rfl;have hcz43_2:w40.cell? ⟨gb599,2,none⟩ = some (.int .i64 x600002_5):=(blk_cell BK599.out 2).trans rfl;have hfz43_0:=blk_frozen BK599.out 0;have hfz43_1:=blk_frozen BK599.out 1;have hfz43_2:=blk_frozen BK599.out 2;have hnb44:=NB594_0.out;have hnc44:=NB0_594.out;have hcz45_0:w40.cell? ⟨gb594,0,none⟩ = some (.int .i64 0):=(blk_cell BK594.out 0).trans rfl;have hcz45_1:w40.cell? ⟨gb594,1,none⟩ = some (.bool false):=(blk_cell BK594.out 1).trans rfl;have hcz45_2:w40.cell? ⟨gb594,2,none⟩ = some (.int .i64 0):=(blk_cell BK594.out 2).trans rfl;have hfz45_0:=blk_frozen BK594.out 0;have hfz45_1:=blk_frozen BK594.out 1;have hfz45_2:=blk_frozen BK594.out 2))
  refine bodyPost_ret (results_cell_row rfl _ _ gb594 30 #[.int .i64 t595,.bool t597,.int .i64 x600002_5] (0,0) _ rfl (by (with_reducible repeat (first | refine blk_drewN ?_ _ | refine blk_drew ?_ | refine blk_alloc ?_ _));refine blk_put (cs:=#[.int .i64 t595,.bool t597,.int .i64 0]) ?_ 2 _ rfl;(with_reducible repeat (first | refine blk_drewN ?_ _ | refine blk_drew ?_ | refine blk_alloc ?_ _));refine blk_put (cs:=#[.int .i64 t595,.bool false,.int .i64 0]) ?_ 1 _ rfl;(with_reducible repeat (first | refine blk_drewN ?_ _ | refine blk_drew ?_ | refine blk_alloc ?_ _));refine blk_put (cs:=#[.int .i64 0,.bool false,.int .i64 0]) ?_ 0 _ rfl;(with_reducible repeat (first | refine blk_drewN ?_ _ | refine blk_drew ?_ | refine blk_alloc ?_ _));exact BK594.out) Tryz.underlying30 rfl (by kernel_rfl)) rfl ?_
  exact ⟨q75_,q22_,q16_,q24_⟩
def spec_l1Rd_plain.j0:Nat → Bool → List Int → Int → Int → Bool → Int → Option (Int × Bool × Int × Int)
 | 0,_,_,_,_,_,_ => none
 | k + 1,x11,x1000,x1001,x617000,x617001,x617002 => if x11 = true then (some (x617000,x617001,x617002,x1001)) else ((spec_l1Rd_below.f x1000 x1001 10).bind fun bt619 => (if bt619.1 = 0 then ((spec_l1Rd_byte.f x1000 bt619.2).bind fun bt621 => (some (62,false,bt621.1,bt621.2))) else (if bt619.1 = 1 then ((some (([49152,65408,256,128,40960]:List Int):List Int)).bind fun y623 => ((spec_l1Rd_below.f x1000 bt619.2 5).bind fun bt626 => (if 0 ≤ bt626.1 then (if bt626.1 < (y623.length:Int) then (some (33,false,rd y623 bt626.1,bt626.2)) else (none)) else (none)))) else (if bt619.1 = 2 then (some (119,false,0,bt619.2)) else (if bt619.1 = 3 then (some (224,false,1,bt619.2)) else (if bt619.1 = 4 then ((some (([49152,65281,130,10,300,40961]:List Int):List Int)).bind fun y629 => ((spec_l1Rd_below.f x1000 bt619.2 6).bind fun bt632 => (if 0 ≤ bt632.1 then (if bt632.1 < (y629.length:Int) then (some (234,false,rd y629 bt632.1,bt632.2)) else (none)) else (none)))) else (if x617000 ≥ 192 then (if x617002 > 511 then (some (x617000,x617001,Int.tmod x617002 40,bt619.2)) else (some (x617000,x617001,x617002,bt619.2))) else (some (x617000,x617001,x617002,bt619.2)))))))))
def spec_l1Rd_plain.f (k:Nat) (s0_0:List Int) (s0_1:Int):Option (Int × Bool × Int × Int):=(spec_l1Rd_ins.f k s0_0 s0_1).bind fun bt612 => (if bt612.2.1 = true then (spec_l1Rd_plain.j0 k true s0_0 bt612.2.2.2 bt612.1 bt612.2.1 bt612.2.2.1) else ((spec_l1Rd_once.f s0_0 bt612.2.2.2 6).bind fun bt617 => (spec_l1Rd_plain.j0 k bt617.1 s0_0 bt617.2 bt612.1 bt612.2.1 bt612.2.2.1)))
theorem spec_l1Rd_plain.calls (k:Nat) (g:Nat) (s0_0:List Int) (s0_1:Int) (r1:Int) (r2:Bool) (r3:Int) (r4:Int) (w0 w:World) (hI:IsS96 w0 w g s0_0 s0_1) (hB:Below w0.heap.size w0 w) (h:spec_l1Rd_plain.f k s0_0 s0_1 = some (r1,r2,r3,r4)) :
  Calls Tryz.prog 125 #[.pointer (some ⟨g,0,none⟩)] w fun e w' => e = .returned (.agg #[.int .i64 r1,.bool r2,.int .i64 r3]) ∧ IsS96 w0 w' g s0_0 r4 ∧ Below w0.heap.size w0 w' ∧ KeepBut w w' g none:=by
 have hu30:=Tryz.underlying30
 have HI0:=Aside0.mk hI
 have HK:=Aside0.mk (KeepBut.refl w g none)
 have HL:=Aside0.mk hB.size
 clear hI
 have HW0:=Aside0.mk hB.size
 have HB:=Aside0.mk hB
 clear hB
 have H:=h;unfold spec_l1Rd_plain.f at H
 clear h
 replace H:=Option.bind_eq_some_iff.mp H
 obtain ⟨⟨t612,t613,t614,t615⟩,A20,H⟩:=H
 try dsimp -simprocs -eta only at H
 have A2:=Aside0.mk A20
 clear A20
 have HC3:=Aside0.mk H
 clear H
 go_enter Tryz.func125,Tryz.ntmps125
 go_upto_region 2 with (first | ((with_reducible refine gate_dst (N:=2) rfl ?_);refine box_event ?hg (N:=2) ?hd (cs:=#[.int .i64 0,.bool false,.int .i64 0]) (t:=30) ?hr ?_;(case hd => rfl);(case hg => rfl);(case hr => exact q153_);intro gb611 hg w4 hbox hb;have n0_:=Aside0.mk (IsS96.below q62_ hb);have n1_:=Aside0.mk (KeepBut.trans q63_ (KeepBut.of_below hb g none) (.inl rfl));have n2_:=Aside0.mk (below_step q44_ hb);have n3_:=Aside0.mk (hbox);have n4_:=Aside0.mk ((q26_:w.heap.size ≤ gb611));have n5_:=Aside0.mk ((Nat.le_trans HW0.out (q26_:w.heap.size ≤ gb611):w0.heap.size ≤ gb611));have n6_:=Aside0.mk ((q20_:g ≠ gb611));have n7_:=Aside0.mk ((q21_:gb611 ≠ g));clear HI0;clear HK;clear HB;have HI0:=n0_;have HK:=n1_;have HB:=n2_;have BK611:=n3_;have GW611:=n4_;have GE611:=n5_;have NB0_611:=n6_;have NB611_0:=n7_;clear n0_ n1_ n2_ n3_ n4_ n5_ n6_ n7_;clear hb hbox hg) | ((with_reducible refine gate_callee (f:=62) rfl ?_);refine goesL_ (some 5) rfl rfl Tryz.func62 (by kernel_rfl) rfl #[.pointer (some ⟨g,0,none⟩)] rfl q68_ ?_;(with_reducible refine (spec_l1Rd_ins.calls k g s0_0 s0_1 t612 t613 t614 t615 w0 _ ?side1 ?side2 A2.out).mono ?_);(case side1 => repeat (first | (with_reducible first | exact HI0.out | apply IsS96.alloc | apply IsS96.drewN | apply IsS96.drew | apply IsS96.set_1 | refine IsS96.far ?_ NB0_611.out _) | exact HI0.out));(case side2 => repeat (first | (with_reducible first | exact HB.out | apply below_alloc | apply pw_below_drewN | apply below_drew1 | refine below_set ?_ (IsS96.ge HI0.out) | refine below_set ?_ GE611.out) | exact HB.out));rintro e w5 ⟨rfl,hi,hb,hk⟩;refine ⟨_,rfl,?_⟩;have n0_:=Aside0.mk (KeepBut.blk hk (g':=gb611) (o:=.cells #[.int .i64 0,.bool false,.int .i64 0] 30 (0,0)) q89_ NB611_0.out (by simp));have n1_:=Aside0.mk (KeepBut.trans q40_ hk (.inl rfl));have n2_:=Aside0.mk (hb);have n3_:=Aside0.mk (hi);clear BK611;clear HK;clear HB;clear HI0;have BK611:=n0_;have HK:=n1_;have HB:=n2_;have HI0:=n3_;clear n0_ n1_ n2_ n3_;(try clear hb);(try clear hk);(try clear hi)) | ((with_reducible refine gate_dst (N:=3) rfl ?_);refine box_event ?hg (N:=3) ?hd (cs:=#[.int .i64 0,.bool false,.int .i64 0]) (t:=30) ?hr ?_;(case hd => rfl);(case hg => rfl);(case hr => exact q153_);intro gb616 hg w6 hbox hb;have n0_:=Aside0.mk (IsS96.below (by repeat (first | (with_reducible first | exact HI0.out | apply IsS96.alloc | apply IsS96.drewN | apply IsS96.drew | apply IsS96.set_1 | refine IsS96.far ?_ NB0_611.out _) | exact HI0.out)) hb);have n1_:=Aside0.mk (blk_below (g:=gb611) (o:=.cells #[.int .i64 0,.bool false,.int .i64 0] 30 (0,0)) q89_ hb);have n2_:=Aside0.mk (KeepBut.trans q40_ (KeepBut.of_below hb g none) (.inl rfl));have n3_:=Aside0.mk (below_step (by repeat (first | (with_reducible first | exact HB.out | apply below_alloc | apply pw_below_drewN | apply below_drew1 | refine below_set ?_ (IsS96.ge HI0.out) | refine below_set ?_ GE611.out) | exact HB.out)) hb);have n4_:=Aside0.mk (hbox);have n5_:=Aside0.mk ((q13_:w.heap.size ≤ gb616));have n6_:=Aside0.mk ((Nat.le_trans HW0.out (q13_:w.heap.size ≤ gb616):w0.heap.size ≤ gb616));have n7_:=Aside0.mk ((by rw [hg];exact Nat.ne_of_lt (blk_lt (g:=gb611) (o:=.cells #[.int .i64 0,.bool false,.int .i64 0] 30 (0,0)) q89_):gb611 ≠ gb616));have n8_:=Aside0.mk ((by rw [hg];exact Nat.ne_of_gt (blk_lt (g:=gb611) (o:=.cells #[.int .i64 0,.bool false,.int .i64 0] 30 (0,0)) q89_):gb616 ≠ gb611));have n9_:=Aside0.mk ((by rw [hg];exact Nat.ne_of_lt (IsS96.lt (show IsS96 w0 _ g s0_0 t615 from by repeat (first | (with_reducible first | exact HI0.out | apply IsS96.alloc | apply IsS96.drewN | apply IsS96.drew | apply IsS96.set_1 | refine IsS96.far ?_ NB0_611.out _) | exact HI0.out))):g ≠ gb616));have n10_:=Aside0.mk ((by rw [hg];exact Nat.ne_of_gt (IsS96.lt (show IsS96 w0 _ g s0_0 t615 from by repeat (first | (with_reducible first | exact HI0.out | apply IsS96.alloc | apply IsS96.drewN | apply IsS96.drew | apply IsS96.set_1 | refine IsS96.far ?_ NB0_611.out _) | exact HI0.out))):gb616 ≠ g));clear HI0;clear BK611;clear HK;clear HB;have HI0:=n0_;have BK611:=n1_;have HK:=n2_;have HB:=n3_;have BK616:=n4_;have GW616:=n5_;have GE616:=n6_;have NB611_616:=n7_;have NB616_611:=n8_;have NB0_616:=n9_;have NB616_0:=n10_;clear n0_ n1_ n2_ n3_ n4_ n5_ n6_ n7_ n8_ n9_ n10_;clear hb hbox hg;have hnb7:=NB616_611.out;have hnc7:=NB611_616.out;have hnb8:=NB616_0.out;have hnc8:=NB0_616.out;have hcz9_0:w6.cell? ⟨gb616,0,none⟩ = some (.int .i64 0):=(blk_cell BK616.out 0).trans rfl;have hcz9_1:w6.cell? ⟨gb616,1,none⟩ = some (.bool false):=(blk_cell BK616.out 1).trans rfl;have hcz9_2:w6.cell? ⟨gb616,2,none⟩ = some (.int .i64 0):=(blk_cell BK616.out 2).trans rfl;have hfz9_0:=blk_frozen BK616.out 0;have hfz9_1:=blk_frozen BK616.out 1;have hfz9_2:=blk_frozen BK616.out 2))
 (try simp only [Act.put,List.setIfInBounds_toArray,List.set_cons_zero,List.set_cons_succ])
 go_cut [11] (fun v11 wc => ∃ (kq:Nat) (x11_2:Bool) (x1001_2:Int),v11 = .bool x11_2 ∧ Aside0 (spec_l1Rd_plain.j0 kq x11_2 s0_0 x1001_2 t612 t613 t614 = some (r1,r2,r3,r4)) ∧ Aside0 (kq ≤ k) ∧ Aside0 (wc.heap[gb611]? = some (.cells #[.int .i64 0,.bool false,.int .i64 0] 30 (0,0))) ∧ Aside0 (wc.heap[gb616]? = some (.cells #[.int .i64 t612,.bool t613,.int .i64 t614] 30 (0,0))) ∧ Aside0 (IsS96 w0 wc g s0_0 x1001_2) ∧ Aside0 (KeepBut w wc g none) ∧ Aside0 (Below w0.heap.size w0 wc))
 case first =>
  have H:=HC3.out
  clear HC3
  by_cases c10:t613 = true
  ·subst c10
   rewrite [if_pos rfl] at H
   have H':=Aside0.mk H
   clear H
   have hnb11:=NB616_611.out
   have hnc11:=NB611_616.out
   have hnb12:=NB616_0.out
   have hnc12:=NB0_616.out
   have hcz13_0:w6.cell? ⟨gb616,0,none⟩ = some (.int .i64 0):=bz_ BK616 0
   have hcz13_1:w6.cell? ⟨gb616,1,none⟩ = some (.bool false):=bz_ BK616 1
   have hcz13_2:w6.cell? ⟨gb616,2,none⟩ = some (.int .i64 0):=bz_ BK616 2
   have hfz13_0:=blk_frozen BK616.out 0
   have hfz13_1:=blk_frozen BK616.out 1
   have hfz13_2:=blk_frozen BK616.out 2
   go_wp2
   go_meet
   case rel => exact ⟨_,(true),(t615),q94_,H',⟨q132_⟩,⟨q4_⟩,⟨by (with_reducible repeat (first | refine blk_drewN ?_ _ | refine blk_drew ?_ | refine blk_alloc ?_ _));refine blk_put (cs:=#[.int .i64 t612,.bool true,.int .i64 0]) ?_ 2 _ rfl;(with_reducible repeat (first | refine blk_drewN ?_ _ | refine blk_drew ?_ | refine blk_alloc ?_ _));refine blk_put (cs:=#[.int .i64 t612,.bool false,.int .i64 0]) ?_ 1 _ rfl;(with_reducible repeat (first | refine blk_drewN ?_ _ | refine blk_drew ?_ | refine blk_alloc ?_ _));refine blk_put (cs:=#[.int .i64 0,.bool false,.int .i64 0]) ?_ 0 _ rfl;(with_reducible repeat (first | refine blk_drewN ?_ _ | refine blk_drew ?_ | refine blk_alloc ?_ _));exact BK616.out⟩,⟨q23_⟩,⟨q25_⟩,⟨q17_⟩⟩
  replace c10:=Bool.eq_false_iff.mpr c10
  subst c10
  rewrite [if_neg (show ¬ (false = true) by decide)] at H
  replace H:=Option.bind_eq_some_iff.mp H
  obtain ⟨⟨t617,t618⟩,A140,H⟩:=H
  try dsimp -simprocs -eta only at H
  have A14:=Aside0.mk A140
  clear A140
  have H':=Aside0.mk H
  clear H
  have hnb15:=NB616_611.out
  have hnc15:=NB611_616.out
  have hnb16:=NB616_0.out
  have hnc16:=NB0_616.out
  have hcz17_0:w6.cell? ⟨gb616,0,none⟩ = some (.int .i64 0):=bz_ BK616 0
  have hcz17_1:w6.cell? ⟨gb616,1,none⟩ = some (.bool false):=bz_ BK616 1
  have hcz17_2:w6.cell? ⟨gb616,2,none⟩ = some (.int .i64 0):=bz_ BK616 2
  have hfz17_0:=blk_frozen BK616.out 0
  have hfz17_1:=blk_frozen BK616.out 1
  have hfz17_2:=blk_frozen BK616.out 2
  go_wp2_with (first | (go_at_call 45;(with_reducible refine (spec_l1Rd_once.calls g s0_0 t615 6 t617 t618 w0 _ ?side1 ?side2 A14.out).mono ?_);(case side1 => exact q143_);(case side2 => exact q141_);rintro e w18 ⟨rfl,hi,hb,hk⟩;have n0_:=Aside0.mk (KeepBut.blk hk (g':=gb611) (o:=.cells #[.int .i64 0,.bool false,.int .i64 0] 30 (0,0)) q4_ NB611_0.out (by simp));have n1_:=Aside0.mk (KeepBut.blk hk (g':=gb616) (o:=.cells #[.int .i64 t612,.bool false,.int .i64 t614] 30 (0,0)) (by (with_reducible repeat (first | refine blk_drewN ?_ _ | refine blk_drew ?_ | refine blk_alloc ?_ _));refine blk_put (cs:=#[.int .i64 t612,.bool false,.int .i64 0]) ?_ 2 _ rfl;(with_reducible repeat (first | refine blk_drewN ?_ _ | refine blk_drew ?_ | refine blk_alloc ?_ _));refine blk_put (cs:=#[.int .i64 t612,.bool false,.int .i64 0]) ?_ 1 _ rfl;(with_reducible repeat (first | refine blk_drewN ?_ _ | refine blk_drew ?_ | refine blk_alloc ?_ _));refine blk_put (cs:=#[.int .i64 0,.bool false,.int .i64 0]) ?_ 0 _ rfl;(with_reducible repeat (first | refine blk_drewN ?_ _ | refine blk_drew ?_ | refine blk_alloc ?_ _));exact BK616.out) NB616_0.out (by simp));have n2_:=Aside0.mk (KeepBut.trans q25_ hk (.inl rfl));have n3_:=Aside0.mk (hb);have n4_:=Aside0.mk (hi);clear BK611;clear BK616;clear HK;clear HB;clear HI0;have BK611:=n0_;have BK616:=n1_;have HK:=n2_;have HB:=n3_;have HI0:=n4_;clear n0_ n1_ n2_ n3_ n4_;(try clear hb);(try clear hk);(try clear hi)))
  go_meet
  case rel => exact ⟨_,(t617),(t618),q94_,H',⟨q132_⟩,⟨q89_⟩,⟨q90_⟩,⟨q23_⟩,⟨q25_⟩,⟨q17_⟩⟩
 clear HC3
 try clear c1
 try clear p2
 try clear c6
 try clear p6
 try clear c7
 try clear c8
 try clear c10
 try clear c11
 try clear c12
 try clear c15
 try clear c16
 try clear hcz13_0 hcz13_1 hcz13_2
 try clear hcz17_0 hcz17_1 hcz17_2
 try clear hcz9_0 hcz9_1 hcz9_2
 try clear hfz13_0 hfz13_1 hfz13_2
 try clear hfz17_0 hfz17_1 hfz17_2
 try clear hfz9_0 hfz9_1 hfz9_2
 obtain ⟨kq,x11_2,x1001_2,rfl,HA,HJ2,BK611,BK616,HI0,HK,HB⟩:=hcut
 cases kq with
 | zero => exact absurd HA.out (by simp [spec_l1Rd_plain.j0])
 | succ kj2 =>
  have H:=HA.out
  clear HA
  simp only [spec_l1Rd_plain.j0] at H
  by_cases c19:x11_2 = true
  ·subst c19
   rewrite [if_pos rfl] at H
   simp only [Option.some.injEq,Prod.mk.injEq] at H
   obtain ⟨rfl,rfl,rfl,rfl⟩:=H
   have hnb20:=NB616_611.out
   have hnc20:=NB611_616.out
   have hnb21:=NB616_0.out
   have hnc21:=NB0_616.out
   have hcz22_0:wc.cell? ⟨gb616,0,none⟩ = some (.int .i64 t612):=bz_ BK616 0
   have hcz22_1:wc.cell? ⟨gb616,1,none⟩ = some (.bool t613):=bz_ BK616 1
   have hcz22_2:wc.cell? ⟨gb616,2,none⟩ = some (.int .i64 t614):=bz_ BK616 2
   have hfz22_0:=blk_frozen BK616.out 0
   have hfz22_1:=blk_frozen BK616.out 1
   have hfz22_2:=blk_frozen BK616.out 2
   have hnb23:=NB611_0.out
   have hnc23:=NB0_611.out
   have hcz24_0:wc.cell? ⟨gb611,0,none⟩ = some (.int .i64 0):=bz_ BK611 0
   have hcz24_1:wc.cell? ⟨gb611,1,none⟩ = some (.bool false):=bz_ BK611 1
   have hcz24_2:wc.cell? ⟨gb611,2,none⟩ = some (.int .i64 0):=bz_ BK611 2
   have hfz24_0:=blk_frozen BK611.out 0
   have hfz24_1:=blk_frozen BK611.out 1
   have hfz24_2:=blk_frozen BK611.out 2
   go_wp2
   refine bodyPost_ret (results_cell_row rfl _ _ gb611 30 #[.int .i64 t612,.bool t613,.int .i64 t614] (0,0) _ rfl q0_ Tryz.underlying30 rfl (by kernel_rfl)) rfl ?_
   exact ⟨q75_,q23_,q17_,q25_⟩
  replace c19:=Bool.eq_false_iff.mpr c19
  subst c19
  rewrite [if_neg (show ¬ (false = true) by decide)] at H
  replace H:=Option.bind_eq_some_iff.mp H
  obtain ⟨⟨t619,t620⟩,A250,H⟩:=H
  try dsimp -simprocs -eta only at H
  have A25:=Aside0.mk A250
  clear A250
  by_cases c26:t619 = 0
  ·rw [if_pos c26] at H
   have c26b0:(t619 == 0) = true:=beq_iff_eq.mpr c26
   have c26b1:(t619 != 0) = false:=bne_eq_false_iff_eq.mpr c26
   clear c26
   replace H:=Option.bind_eq_some_iff.mp H
   obtain ⟨⟨t621,t622⟩,A270,H⟩:=H
   try dsimp -simprocs -eta only at H
   have A27:=Aside0.mk A270
   clear A270
   simp only [Option.some.injEq,Prod.mk.injEq] at H
   obtain ⟨rfl,rfl,rfl,rfl⟩:=H
   go_wp2_with (first | ((with_reducible refine gate_callee (f:=44) rfl ?_);refine goesL_ (some 14) rfl rfl Tryz.func44 (by kernel_rfl) rfl #[.pointer (some ⟨g,0,none⟩),.int .i64 10] rfl q68_ ?_;(with_reducible refine (spec_l1Rd_below.calls g s0_0 x1001_2 10 t619 t620 w0 _ ?side1 ?side2 A25.out).mono ?_);(case side1 => exact q143_);(case side2 => exact q141_);rintro e w28 ⟨rfl,hi,hb,hk⟩;refine ⟨_,rfl,?_⟩;have n0_:=Aside0.mk (KeepBut.blk hk (g':=gb611) (o:=.cells #[.int .i64 0,.bool false,.int .i64 0] 30 (0,0)) q89_ NB611_0.out (by simp));have n1_:=Aside0.mk (KeepBut.blk hk (g':=gb616) (o:=.cells #[.int .i64 t612,.bool t613,.int .i64 t614] 30 (0,0)) q90_ NB616_0.out (by simp));have n2_:=Aside0.mk (KeepBut.trans q25_ hk (.inl rfl));have n3_:=Aside0.mk (hb);have n4_:=Aside0.mk (hi);clear BK611;clear BK616;clear HK;clear HB;clear HI0;have BK611:=n0_;have BK616:=n1_;have HK:=n2_;have HB:=n3_;have HI0:=n4_;clear n0_ n1_ n2_ n3_ n4_;(try clear hb);(try clear hk);(try clear hi)) | ((with_reducible refine gate_callee (f:=104) rfl ?_);refine goesL_ (some 18) rfl rfl Tryz.func104 (by kernel_rfl) rfl #[.pointer (some ⟨g,0,none⟩)] rfl q68_ ?_;(with_reducible refine (spec_l1Rd_byte.calls g s0_0 t620 t621 t622 w0 _ ?side1 ?side2 A27.out).mono ?_);(case side1 => exact q143_);(case side2 => exact q141_);rintro e w29 ⟨rfl,hi,hb,hk⟩;refine ⟨_,rfl,?_⟩;have n0_:=Aside0.mk (KeepBut.blk hk (g':=gb611) (o:=.cells #[.int .i64 0,.bool false,.int .i64 0] 30 (0,0)) q89_ NB611_0.out (by simp));have n1_:=Aside0.mk (KeepBut.blk hk (g':=gb616) (o:=.cells #[.int .i64 t612,.bool t613,.int .i64 t614] 30 (0,0)) q90_ NB616_0.out (by simp));have n2_:=Aside0.mk (KeepBut.trans q25_ hk (.inl rfl));have n3_:=Aside0.mk (hb);have n4_:=Aside0.mk (hi);clear BK611;clear BK616;clear HK;clear HB;clear HI0;have BK611:=n0_;have BK616:=n1_;have HK:=n2_;have HB:=n3_;have HI0:=n4_;clear n0_ n1_ n2_ n3_ n4_;(try clear hb);(try clear hk);(try clear hi);have hnb30:=NB611_616.out;have hnc30:=NB616_611.out;have hnb31:=NB611_0.out;have hnc31:=NB0_611.out;have hcz32_0:w29.cell? ⟨gb611,0,none⟩ = some (.int .i64 0):=(blk_cell BK611.out 0).trans rfl;have hcz32_1:w29.cell? ⟨gb611,1,none⟩ = some (.bool false):=(blk_cell BK611.out 1).trans rfl;have hcz32_2:w29.cell? ⟨gb611,2,none⟩ = some (.int .i64 0):=(blk_cell BK611.out 2).trans rfl;have hfz32_0:=blk_frozen BK611.out 0;have hfz32_1:=blk_frozen BK611.out 1;have hfz32_2:=blk_frozen BK611.out 2))
   refine bodyPost_ret (results_cell_row rfl _ _ gb611 30 #[.int .i64 62,.bool false,.int .i64 t621] (0,0) _ rfl (by (with_reducible repeat (first | refine blk_drewN ?_ _ | refine blk_drew ?_ | refine blk_alloc ?_ _));refine blk_put (cs:=#[.int .i64 62,.bool false,.int .i64 0]) ?_ 2 _ rfl;(with_reducible repeat (first | refine blk_drewN ?_ _ | refine blk_drew ?_ | refine blk_alloc ?_ _));refine blk_put (cs:=#[.int .i64 62,.bool false,.int .i64 0]) ?_ 1 _ rfl;(with_reducible repeat (first | refine blk_drewN ?_ _ | refine blk_drew ?_ | refine blk_alloc ?_ _));refine blk_put (cs:=#[.int .i64 0,.bool false,.int .i64 0]) ?_ 0 _ rfl;(with_reducible repeat (first | refine blk_drewN ?_ _ | refine blk_drew ?_ | refine blk_alloc ?_ _));exact BK611.out) Tryz.underlying30 rfl (by kernel_rfl)) rfl ?_
   exact ⟨q75_,q23_,q17_,q25_⟩
  rw [if_neg c26] at H
  have c26b0:(t619 == 0) = false:=beq_eq_false_iff_ne.mpr c26
  have c26b1:(t619 != 0) = true:=bne_iff_ne.mpr c26
  by_cases c33:t619 = 1
  ·rw [if_pos c33] at H
   have c33b0:(t619 == 1) = true:=beq_iff_eq.mpr c33
   have c33b1:(t619 != 1) = false:=bne_eq_false_iff_eq.mpr c33
   clear c33
   obtain ⟨y623,hy623⟩:∃ y_:List Int,y_ = (([49152,65408,256,128,40960]:List Int)):=⟨_,rfl⟩
   replace H:((spec_l1Rd_below.f s0_0 t620 5).bind fun bt626 => (if 0 ≤ bt626.1 then (if bt626.1 < (y623.length:Int) then (some (33,false,rd y623 bt626.1,bt626.2)) else (none)) else (none))) = some (r1,r2,r3,r4):=by first | (rw [hy623];exact H) | exact H
   have Ny623:=Aside0.mk hy623
   clear hy623
   replace H:=Option.bind_eq_some_iff.mp H
   obtain ⟨⟨t626,t627⟩,A340,H⟩:=H
   try dsimp -simprocs -eta only at H
   have A34:=Aside0.mk A340
   clear A340
   by_cases c35:0 ≤ t626
   rotate_left
   ·rw [if_neg c35] at H
    exact absurd H (by simp)
   rw [if_pos c35] at H
   have c35b0:=decide_eq_true c35
   clear c35
   by_cases c36:t626 < (y623.length:Int)
   rotate_left
   ·rw [if_neg c36] at H
    exact absurd H (by simp)
   rw [if_pos c36] at H
   have c36b0:=decide_eq_true c36
   clear c36
   simp only [Option.some.injEq,Prod.mk.injEq] at H
   obtain ⟨rfl,rfl,rfl,rfl⟩:=H
   go_wp2_with (first | ((with_reducible refine gate_callee (f:=44) rfl ?_);refine goesL_ (some 14) rfl rfl Tryz.func44 (by kernel_rfl) rfl #[.pointer (some ⟨g,0,none⟩),.int .i64 10] rfl q68_ ?_;(with_reducible refine (spec_l1Rd_below.calls g s0_0 x1001_2 10 t619 t620 w0 _ ?side1 ?side2 A25.out).mono ?_);(case side1 => exact q143_);(case side2 => exact q141_);rintro e w37 ⟨rfl,hi,hb,hk⟩;refine ⟨_,rfl,?_⟩;have n0_:=Aside0.mk (KeepBut.blk hk (g':=gb611) (o:=.cells #[.int .i64 0,.bool false,.int .i64 0] 30 (0,0)) q89_ NB611_0.out (by simp));have n1_:=Aside0.mk (KeepBut.blk hk (g':=gb616) (o:=.cells #[.int .i64 t612,.bool t613,.int .i64 t614] 30 (0,0)) q90_ NB616_0.out (by simp));have n2_:=Aside0.mk (KeepBut.trans q25_ hk (.inl rfl));have n3_:=Aside0.mk (hb);have n4_:=Aside0.mk (hi);clear BK611;clear BK616;clear HK;clear HB;clear HI0;have BK611:=n0_;have BK616:=n1_;have HK:=n2_;have HB:=n3_;have HI0:=n4_;clear n0_ n1_ n2_ n3_ n4_;(try clear hb);(try clear hk);(try clear hi)) | ((with_reducible refine gate_dst (N:=22) rfl ?_);refine Kd.R_lit (Kd.int .i64) _ 2 ?hg (N:=22) ?hd (xs:=([49152,65408,256,128,40960]:List Int)) (inner:=[.int .i64 49152,.int .i64 65408,.int .i64 256,.int .i64 128,.int .i64 40960]) (ok:=fun _ => True) (okp:=fun _ => True) ?hr ?hp (fun _ hk => hk) trivial (Below.refl _ _) (Nat.le_refl _) (by simp) ?_;(case hd => rfl);(case hg => rfl);(case hr => exact q153_);(case hp => exact (Reps.one (show Kd.M (Kd.int .i64) _ _ _ 49152 [.int .i64 49152] from rfl) (Reps.one (show Kd.M (Kd.int .i64) _ _ _ 65408 [.int .i64 65408] from rfl) (Reps.one (show Kd.M (Kd.int .i64) _ _ _ 256 [.int .i64 256] from rfl) (Reps.one (show Kd.M (Kd.int .i64) _ _ _ 128 [.int .i64 128] from rfl) (Reps.one (show Kd.M (Kd.int .i64) _ _ _ 40960 [.int .i64 40960] from rfl) (Reps.none _ _)))))));intro v624 w38 ho39 hb hg_ hnew_;clear hg_ hnew_;(first | rw [← Ny623.out] at ho39 | (simp only [Int.reduceToNat] at ho39;rw [← Ny623.out] at ho39));have n0_:=Aside0.mk (Kd.R_lower ho39 (keep_size (w:=w) (g:=g) (row:=none) q25_));have n1_:=Aside0.mk (blk_below (g:=gb611) (o:=.cells #[.int .i64 0,.bool false,.int .i64 0] 30 (0,0)) q89_ hb);have n2_:=Aside0.mk (blk_below (g:=gb616) (o:=.cells #[.int .i64 t612,.bool t613,.int .i64 t614] 30 (0,0)) q90_ hb);have n3_:=Aside0.mk (IsS96.below q23_ hb);have n4_:=Aside0.mk (KeepBut.trans q25_ (KeepBut.of_below hb g none) (.inl rfl));have n5_:=Aside0.mk (below_step q17_ hb);clear BK611;clear BK616;clear HI0;clear HK;clear HB;have HO625:=n0_;have BK611:=n1_;have BK616:=n2_;have HI0:=n3_;have HK:=n4_;have HB:=n5_;clear n0_ n1_ n2_ n3_ n4_ n5_;clear hb ho39) | ((with_reducible refine gate_callee (f:=44) rfl ?_);refine goesL_ (some 24) rfl rfl Tryz.func44 (by kernel_rfl) rfl #[.pointer (some ⟨g,0,none⟩),.int .i64 5] rfl q68_ ?_;(with_reducible refine (spec_l1Rd_below.calls g s0_0 t620 5 t626 t627 w0 _ ?side1 ?side2 A34.out).mono ?_);(case side1 => exact q143_);(case side2 => exact q141_);rintro e w40 ⟨rfl,hi,hb,hk⟩;refine ⟨_,rfl,?_⟩;have n0_:=Aside0.mk (KeepBut.blk hk (g':=gb611) (o:=.cells #[.int .i64 0,.bool false,.int .i64 0] 30 (0,0)) q89_ NB611_0.out (by simp));have n1_:=Aside0.mk (KeepBut.blk hk (g':=gb616) (o:=.cells #[.int .i64 t612,.bool t613,.int .i64 t614] 30 (0,0)) q90_ NB616_0.out (by simp));have n2_:=Aside0.mk (Kd.R_mono (Kd.R_keep (IsS96.apart (show IsS96 w0 _ g s0_0 t620 from by repeat (first | (with_reducible first | exact HI0.out | apply IsS96.alloc | apply IsS96.drewN | apply IsS96.drew | apply IsS96.set_1 | refine IsS96.far ?_ NB0_611.out _ | refine IsS96.far ?_ NB0_616.out _) | exact HI0.out)) (by (with_reducible repeat (first | apply Kd.R_alloc | apply Kd.R_drewN | apply Kd.R_drew));exact HO625.out) (by decide)) hk (fun _ h => h.2)) (fun _ h => h.1));have n3_:=Aside0.mk (KeepBut.trans q25_ hk (.inl rfl));have n4_:=Aside0.mk (hb);have n5_:=Aside0.mk (hi);clear BK611;clear BK616;clear HO625;clear HK;clear HB;clear HI0;have BK611:=n0_;have BK616:=n1_;have HO625:=n2_;have HK:=n3_;have HB:=n4_;have HI0:=n5_;clear n0_ n1_ n2_ n3_ n4_ n5_;(try clear hb);(try clear hk);(try clear hi);obtain ⟨Ao41,co41,eo41⟩:=Kd.R_slice HO625.out;subst eo41;have p628:0 ≤ (t626:Int):=of_decide_eq_true q119_;have q628:t626 < (y623.length:Int):=of_decide_eq_true q119_;obtain ⟨ad628,e628,hx628_0⟩:=Kd.at_int (Kd.R_reads' HO625.out).2.2 t626 p628 q628;cases e628;replace p628:=eq_true p628;replace q628:=eq_true q628;have hnb42:=NB611_616.out;have hnc42:=NB616_611.out;have hnb43:=NB611_0.out;have hnc43:=NB0_611.out;have hcz44_0:w40.cell? ⟨gb611,0,none⟩ = some (.int .i64 0):=(blk_cell BK611.out 0).trans rfl;have hcz44_1:w40.cell? ⟨gb611,1,none⟩ = some (.bool false):=(blk_cell BK611.out 1).trans rfl;have hcz44_2:w40.cell? ⟨gb611,2,none⟩ = some (.int .i64 0):=(blk_cell BK611.out 2).trans rfl;have hfz44_0:=blk_frozen BK611.out 0;have hfz44_1:=blk_frozen BK611.out 1;have hfz44_2:=blk_frozen BK611.out 2))
   refine bodyPost_ret (results_cell_row rfl _ _ gb611 30 #[.int .i64 33,.bool false,.int .i64 (rd y623 t626)] (0,0) _ rfl (by (with_reducible repeat (first | refine blk_drewN ?_ _ | refine blk_drew ?_ | refine blk_alloc ?_ _));refine blk_put (cs:=#[.int .i64 33,.bool false,.int .i64 0]) ?_ 2 _ rfl;(with_reducible repeat (first | refine blk_drewN ?_ _ | refine blk_drew ?_ | refine blk_alloc ?_ _));refine blk_put (cs:=#[.int .i64 33,.bool false,.int .i64 0]) ?_ 1 _ rfl;(with_reducible repeat (first | refine blk_drewN ?_ _ | refine blk_drew ?_ | refine blk_alloc ?_ _));refine blk_put (cs:=#[.int .i64 0,.bool false,.int .i64 0]) ?_ 0 _ rfl;(with_reducible repeat (first | refine blk_drewN ?_ _ | refine blk_drew ?_ | refine blk_alloc ?_ _));exact BK611.out) Tryz.underlying30 rfl (by kernel_rfl)) rfl ?_
   exact ⟨q75_,q23_,q17_,q25_⟩
  rw [if_neg c33] at H
  have c33b0:(t619 == 1) = false:=beq_eq_false_iff_ne.mpr c33
  have c33b1:(t619 != 1) = true:=bne_iff_ne.mpr c33
  by_cases c45:t619 = 2
  ·rw [if_pos c45] at H
   have c45b0:(t619 == 2) = true:=beq_iff_eq.mpr c45
   have c45b1:(t619 != 2) = false:=bne_eq_false_iff_eq.mpr c45
   clear c45
   simp only [Option.some.injEq,Prod.mk.injEq] at H
   obtain ⟨rfl,rfl,rfl,rfl⟩:=H
   go_wp2_with (first | ((with_reducible refine gate_callee (f:=44) rfl ?_);refine goesL_ (some 14) rfl rfl Tryz.func44 (by kernel_rfl) rfl #[.pointer (some ⟨g,0,none⟩),.int .i64 10] rfl q68_ ?_;(with_reducible refine (spec_l1Rd_below.calls g s0_0 x1001_2 10 t619 t620 w0 _ ?side1 ?side2 A25.out).mono ?_);(case side1 => exact q143_);(case side2 => exact q141_);rintro e w46 ⟨rfl,hi,hb,hk⟩;refine ⟨_,rfl,?_⟩;have n0_:=Aside0.mk (KeepBut.blk hk (g':=gb611) (o:=.cells #[.int .i64 0,.bool false,.int .i64 0] 30 (0,0)) q89_ NB611_0.out (by simp));have n1_:=Aside0.mk (KeepBut.blk hk (g':=gb616) (o:=.cells #[.int .i64 t612,.bool t613,.int .i64 t614] 30 (0,0)) q90_ NB616_0.out (by simp));have n2_:=Aside0.mk (KeepBut.trans q25_ hk (.inl rfl));have n3_:=Aside0.mk (hb);have n4_:=Aside0.mk (hi);clear BK611;clear BK616;clear HK;clear HB;clear HI0;have BK611:=n0_;have BK616:=n1_;have HK:=n2_;have HB:=n3_;have HI0:=n4_;clear n0_ n1_ n2_ n3_ n4_;(try clear hb);(try clear hk);(try clear hi);have hnb47:=NB611_616.out;have hnc47:=NB616_611.out;have hnb48:=NB611_0.out;have hnc48:=NB0_611.out;have hcz49_0:w46.cell? ⟨gb611,0,none⟩ = some (.int .i64 0):=(blk_cell BK611.out 0).trans rfl;have hcz49_1:w46.cell? ⟨gb611,1,none⟩ = some (.bool false):=(blk_cell BK611.out 1).trans rfl;have hcz49_2:w46.cell? ⟨gb611,2,none⟩ = some (.int .i64 0):=(blk_cell BK611.out 2).trans rfl;have hfz49_0:=blk_frozen BK611.out 0;have hfz49_1:=blk_frozen BK611.out 1;have hfz49_2:=blk_frozen BK611.out 2))
   refine bodyPost_ret (results_cell_row rfl _ _ gb611 30 #[.int .i64 119,.bool false,.int .i64 0] (0,0) _ rfl (by (with_reducible repeat (first | refine blk_drewN ?_ _ | refine blk_drew ?_ | refine blk_alloc ?_ _));refine blk_put (cs:=#[.int .i64 119,.bool false,.int .i64 0]) ?_ 2 _ rfl;(with_reducible repeat (first | refine blk_drewN ?_ _ | refine blk_drew ?_ | refine blk_alloc ?_ _));refine blk_put (cs:=#[.int .i64 119,.bool false,.int .i64 0]) ?_ 1 _ rfl;(with_reducible repeat (first | refine blk_drewN ?_ _ | refine blk_drew ?_ | refine blk_alloc ?_ _));refine blk_put (cs:=#[.int .i64 0,.bool false,.int .i64 0]) ?_ 0 _ rfl;(with_reducible repeat (first | refine blk_drewN ?_ _ | refine blk_drew ?_ | refine blk_alloc ?_ _));exact BK611.out) Tryz.underlying30 rfl (by kernel_rfl)) rfl ?_
   exact ⟨q75_,q23_,q17_,q25_⟩
  rw [if_neg c45] at H
  have c45b0:(t619 == 2) = false:=beq_eq_false_iff_ne.mpr c45
  have c45b1:(t619 != 2) = true:=bne_iff_ne.mpr c45
  by_cases c50:t619 = 3
  ·rw [if_pos c50] at H
   have c50b0:(t619 == 3) = true:=beq_iff_eq.mpr c50
   have c50b1:(t619 != 3) = false:=bne_eq_false_iff_eq.mpr c50
   clear c50
   simp only [Option.some.injEq,Prod.mk.injEq] at H
   obtain ⟨rfl,rfl,rfl,rfl⟩:=H
   go_wp2_with (first | ((with_reducible refine gate_callee (f:=44) rfl ?_);refine goesL_ (some 14) rfl rfl Tryz.func44 (by kernel_rfl) rfl #[.pointer (some ⟨g,0,none⟩),.int .i64 10] rfl q68_ ?_;(with_reducible refine (spec_l1Rd_below.calls g s0_0 x1001_2 10 t619 t620 w0 _ ?side1 ?side2 A25.out).mono ?_);(case side1 => exact q143_);(case side2 => exact q141_);rintro e w51 ⟨rfl,hi,hb,hk⟩;refine ⟨_,rfl,?_⟩;have n0_:=Aside0.mk (KeepBut.blk hk (g':=gb611) (o:=.cells #[.int .i64 0,.bool false,.int .i64 0] 30 (0,0)) q89_ NB611_0.out (by simp));have n1_:=Aside0.mk (KeepBut.blk hk (g':=gb616) (o:=.cells #[.int .i64 t612,.bool t613,.int .i64 t614] 30 (0,0)) q90_ NB616_0.out (by simp));have n2_:=Aside0.mk (KeepBut.trans q25_ hk (.inl rfl));have n3_:=Aside0.mk (hb);have n4_:=Aside0.mk (hi);clear BK611;clear BK616;clear HK;clear HB;clear HI0;have BK611:=n0_;have BK616:=n1_;have HK:=n2_;have HB:=n3_;have HI0:=n4_;clear n0_ n1_ n2_ n3_ n4_;(try clear hb);(try clear hk);(try clear hi);have hnb52:=NB611_616.out;have hnc52:=NB616_611.out;have hnb53:=NB611_0.out;have hnc53:=NB0_611.out;have hcz54_0:w51.cell? ⟨gb611,0,none⟩ = some (.int .i64 0):=(blk_cell BK611.out 0).trans rfl;have hcz54_1:w51.cell? ⟨gb611,1,none⟩ = some (.bool false):=(blk_cell BK611.out 1).trans rfl;have hcz54_2:w51.cell? ⟨gb611,2,none⟩ = some (.int .i64 0):=(blk_cell BK611.out 2).trans rfl;have hfz54_0:=blk_frozen BK611.out 0;have hfz54_1:=blk_frozen BK611.out 1;have hfz54_2:=blk_frozen BK611.out 2))
   refine bodyPost_ret (results_cell_row rfl _ _ gb611 30 #[.int .i64 224,.bool false,.int .i64 1] (0,0) _ rfl (by (with_reducible repeat (first | refine blk_drewN ?_ _ | refine blk_drew ?_ | refine blk_alloc ?_ _));refine blk_put (cs:=#[.int .i64 224,.bool false,.int .i64 0]) ?_ 2 _ rfl;(with_reducible repeat (first | refine blk_drewN ?_ _ | refine blk_drew ?_ | refine blk_alloc ?_ _));refine blk_put (cs:=#[.int .i64 224,.bool false,.int .i64 0]) ?_ 1 _ rfl;(with_reducible repeat (first | refine blk_drewN ?_ _ | refine blk_drew ?_ | refine blk_alloc ?_ _));refine blk_put (cs:=#[.int .i64 0,.bool false,.int .i64 0]) ?_ 0 _ rfl;(with_reducible repeat (first | refine blk_drewN ?_ _ | refine blk_drew ?_ | refine blk_alloc ?_ _));exact BK611.out) Tryz.underlying30 rfl (by kernel_rfl)) rfl ?_
   exact ⟨q75_,q23_,q17_,q25_⟩
  rw [if_neg c50] at H
  have c50b0:(t619 == 3) = false:=beq_eq_false_iff_ne.mpr c50
  have c50b1:(t619 != 3) = true:=bne_iff_ne.mpr c50
  by_cases c55:t619 = 4
  ·rw [if_pos c55] at H
   have c55b0:(t619 == 4) = true:=beq_iff_eq.mpr c55
   have c55b1:(t619 != 4) = false:=bne_eq_false_iff_eq.mpr c55
   clear c55
   obtain ⟨y629,hy629⟩:∃ y_:List Int,y_ = (([49152,65281,130,10,300,40961]:List Int)):=⟨_,rfl⟩
   replace H:((spec_l1Rd_below.f s0_0 t620 6).bind fun bt632 => (if 0 ≤ bt632.1 then (if bt632.1 < (y629.length:Int) then (some (234,false,rd y629 bt632.1,bt632.2)) else (none)) else (none))) = some (r1,r2,r3,r4):=by first | (rw [hy629];exact H) | exact H
   have Ny629:=Aside0.mk hy629
   clear hy629
   replace H:=Option.bind_eq_some_iff.mp H
   obtain ⟨⟨t632,t633⟩,A560,H⟩:=H
   try dsimp -simprocs -eta only at H
   have A56:=Aside0.mk A560
   clear A560
   by_cases c57:0 ≤ t632
   rotate_left
   ·rw [if_neg c57] at H
    exact absurd H (by simp)
   rw [if_pos c57] at H
   have c57b0:=decide_eq_true c57
   clear c57
   by_cases c58:t632 < (y629.length:Int)
   rotate_left
   ·rw [if_neg c58] at H
    exact absurd H (by simp)
   rw [if_pos c58] at H
   have c58b0:=decide_eq_true c58
   clear c58
   simp only [Option.some.injEq,Prod.mk.injEq] at H
   obtain ⟨rfl,rfl,rfl,rfl⟩:=H
   go_wp2_with (first | ((with_reducible refine gate_callee (f:=44) rfl ?_);refine goesL_ (some 14) rfl rfl Tryz.func44 (by kernel_rfl) rfl #[.pointer (some ⟨g,0,none⟩),.int .i64 10] rfl q68_ ?_;(with_reducible refine (spec_l1Rd_below.calls g s0_0 x1001_2 10 t619 t620 w0 _ ?side1 ?side2 A25.out).mono ?_);(case side1 => exact q143_);(case side2 => exact q141_);rintro e w59 ⟨rfl,hi,hb,hk⟩;refine ⟨_,rfl,?_⟩;have n0_:=Aside0.mk (KeepBut.blk hk (g':=gb611) (o:=.cells #[.int .i64 0,.bool false,.int .i64 0] 30 (0,0)) q89_ NB611_0.out (by simp));have n1_:=Aside0.mk (KeepBut.blk hk (g':=gb616) (o:=.cells #[.int .i64 t612,.bool t613,.int .i64 t614] 30 (0,0)) q90_ NB616_0.out (by simp));have n2_:=Aside0.mk (KeepBut.trans q25_ hk (.inl rfl));have n3_:=Aside0.mk (hb);have n4_:=Aside0.mk (hi);clear BK611;clear BK616;clear HK;clear HB;clear HI0;have BK611:=n0_;have BK616:=n1_;have HK:=n2_;have HB:=n3_;have HI0:=n4_;clear n0_ n1_ n2_ n3_ n4_;(try clear hb);(try clear hk);(try clear hi)) | ((with_reducible refine gate_dst (N:=36) rfl ?_);refine Kd.R_lit (Kd.int .i64) _ 2 ?hg (N:=36) ?hd (xs:=([49152,65281,130,10,300,40961]:List Int)) (inner:=[.int .i64 49152,.int .i64 65281,.int .i64 130,.int .i64 10,.int .i64 300,.int .i64 40961]) (ok:=fun _ => True) (okp:=fun _ => True) ?hr ?hp (fun _ hk => hk) trivial (Below.refl _ _) (Nat.le_refl _) (by simp) ?_;(case hd => rfl);(case hg => rfl);(case hr => exact q153_);(case hp => exact (Reps.one (show Kd.M (Kd.int .i64) _ _ _ 49152 [.int .i64 49152] from rfl) (Reps.one (show Kd.M (Kd.int .i64) _ _ _ 65281 [.int .i64 65281] from rfl) (Reps.one (show Kd.M (Kd.int .i64) _ _ _ 130 [.int .i64 130] from rfl) (Reps.one (show Kd.M (Kd.int .i64) _ _ _ 10 [.int .i64 10] from rfl) (Reps.one (show Kd.M (Kd.int .i64) _ _ _ 300 [.int .i64 300] from rfl) (Reps.one (show Kd.M (Kd.int .i64) _ _ _ 40961 [.int .i64 40961] from rfl) (Reps.none _ _))))))));intro v630 w60 ho61 hb hg_ hnew_;clear hg_ hnew_;(first | rw [← Ny629.out] at ho61 | (simp only [Int.reduceToNat] at ho61;rw [← Ny629.out] at ho61));have n0_:=Aside0.mk (Kd.R_lower ho61 (keep_size (w:=w) (g:=g) (row:=none) q25_));have n1_:=Aside0.mk (blk_below (g:=gb611) (o:=.cells #[.int .i64 0,.bool false,.int .i64 0] 30 (0,0)) q89_ hb);have n2_:=Aside0.mk (blk_below (g:=gb616) (o:=.cells #[.int .i64 t612,.bool t613,.int .i64 t614] 30 (0,0)) q90_ hb);have n3_:=Aside0.mk (IsS96.below q23_ hb);have n4_:=Aside0.mk (KeepBut.trans q25_ (KeepBut.of_below hb g none) (.inl rfl));have n5_:=Aside0.mk (below_step q17_ hb);clear BK611;clear BK616;clear HI0;clear HK;clear HB;have HO631:=n0_;have BK611:=n1_;have BK616:=n2_;have HI0:=n3_;have HK:=n4_;have HB:=n5_;clear n0_ n1_ n2_ n3_ n4_ n5_;clear hb ho61) | ((with_reducible refine gate_callee (f:=44) rfl ?_);refine goesL_ (some 38) rfl rfl Tryz.func44 (by kernel_rfl) rfl #[.pointer (some ⟨g,0,none⟩),.int .i64 6] rfl q68_ ?_;(with_reducible refine (spec_l1Rd_below.calls g s0_0 t620 6 t632 t633 w0 _ ?side1 ?side2 A56.out).mono ?_);(case side1 => exact q143_);(case side2 => exact q141_);rintro e w62 ⟨rfl,hi,hb,hk⟩;refine ⟨_,rfl,?_⟩;have n0_:=Aside0.mk (KeepBut.blk hk (g':=gb611) (o:=.cells #[.int .i64 0,.bool false,.int .i64 0] 30 (0,0)) q89_ NB611_0.out (by simp));have n1_:=Aside0.mk (KeepBut.blk hk (g':=gb616) (o:=.cells #[.int .i64 t612,.bool t613,.int .i64 t614] 30 (0,0)) q90_ NB616_0.out (by simp));have n2_:=Aside0.mk (Kd.R_mono (Kd.R_keep (IsS96.apart (show IsS96 w0 _ g s0_0 t620 from by repeat (first | (with_reducible first | exact HI0.out | apply IsS96.alloc | apply IsS96.drewN | apply IsS96.drew | apply IsS96.set_1 | refine IsS96.far ?_ NB0_611.out _ | refine IsS96.far ?_ NB0_616.out _) | exact HI0.out)) (by (with_reducible repeat (first | apply Kd.R_alloc | apply Kd.R_drewN | apply Kd.R_drew));exact HO631.out) (by decide)) hk (fun _ h => h.2)) (fun _ h => h.1));have n3_:=Aside0.mk (KeepBut.trans q25_ hk (.inl rfl));have n4_:=Aside0.mk (hb);have n5_:=Aside0.mk (hi);clear BK611;clear BK616;clear HO631;clear HK;clear HB;clear HI0;have BK611:=n0_;have BK616:=n1_;have HO631:=n2_;have HK:=n3_;have HB:=n4_;have HI0:=n5_;clear n0_ n1_ n2_ n3_ n4_ n5_;(try clear hb);(try clear hk);(try clear hi);obtain ⟨Ao63,co63,eo63⟩:=Kd.R_slice HO631.out;subst eo63;have p634:0 ≤ (t632:Int):=of_decide_eq_true q119_;have q634:t632 < (y629.length:Int):=of_decide_eq_true q119_;obtain ⟨ad634,e634,hx634_0⟩:=Kd.at_int (Kd.R_reads' HO631.out).2.2 t632 p634 q634;cases e634;replace p634:=eq_true p634;replace q634:=eq_true q634;have hnb64:=NB611_616.out;have hnc64:=NB616_611.out;have hnb65:=NB611_0.out;have hnc65:=NB0_611.out;have hcz66_0:w62.cell? ⟨gb611,0,none⟩ = some (.int .i64 0):=(blk_cell BK611.out 0).trans rfl;have hcz66_1:w62.cell? ⟨gb611,1,none⟩ = some (.bool false):=(blk_cell BK611.out 1).trans rfl;have hcz66_2:w62.cell? ⟨gb611,2,none⟩ = some (.int .i64 0):=(blk_cell BK611.out 2).trans rfl;have hfz66_0:=blk_frozen BK611.out 0;have hfz66_1:=blk_frozen BK611.out 1;have hfz66_2:=blk_frozen BK611.out 2))
   refine bodyPost_ret (results_cell_row rfl _ _ gb611 30 #[.int .i64 234,.bool false,.int .i64 (rd y629 t632)] (0,0) _ rfl (by (with_reducible repeat (first | refine blk_drewN ?_ _ | refine blk_drew ?_ | refine blk_alloc ?_ _));refine blk_put (cs:=#[.int .i64 234,.bool false,.int .i64 0]) ?_ 2 _ rfl;(with_reducible repeat (first | refine blk_drewN ?_ _ | refine blk_drew ?_ | refine blk_alloc ?_ _));refine blk_put (cs:=#[.int .i64 234,.bool false,.int .i64 0]) ?_ 1 _ rfl;(with_reducible repeat (first | refine blk_drewN ?_ _ | refine blk_drew ?_ | refine blk_alloc ?_ _));refine blk_put (cs:=#[.int .i64 0,.bool false,.int .i64 0]) ?_ 0 _ rfl;(with_reducible repeat (first | refine blk_drewN ?_ _ | refine blk_drew ?_ | refine blk_alloc ?_ _));exact BK611.out) Tryz.underlying30 rfl (by kernel_rfl)) rfl ?_
   exact ⟨q75_,q23_,q17_,q25_⟩
  rw [if_neg c55] at H
  have c55b0:(t619 == 4) = false:=beq_eq_false_iff_ne.mpr c55
  have c55b1:(t619 != 4) = true:=bne_iff_ne.mpr c55
  by_cases c67:t612 ≥ 192
  ·rw [if_pos c67] at H
   have c67b0:decide (192 ≤ t612) = true:=decide_eq_true c67
   clear c67
   by_cases c68:t614 > 511
   ·rw [if_pos c68] at H
    have c68b0:decide (511 < t614) = true:=decide_eq_true c68
    clear c68
    simp only [Option.some.injEq,Prod.mk.injEq] at H
    obtain ⟨rfl,rfl,rfl,rfl⟩:=H
    go_wp2_with (first | ((with_reducible refine gate_callee (f:=44) rfl ?_);refine goesL_ (some 14) rfl rfl Tryz.func44 (by kernel_rfl) rfl #[.pointer (some ⟨g,0,none⟩),.int .i64 10] rfl q68_ ?_;(with_reducible refine (spec_l1Rd_below.calls g s0_0 x1001_2 10 t619 t620 w0 _ ?side1 ?side2 A25.out).mono ?_);(case side1 => exact q143_);(case side2 => exact q141_);rintro e w69 ⟨rfl,hi,hb,hk⟩;refine ⟨_,rfl,?_⟩;have n0_:=Aside0.mk (KeepBut.blk hk (g':=gb611) (o:=.cells #[.int .i64 0,.bool false,.int .i64 0] 30 (0,0)) q89_ NB611_0.out (by simp));have n1_:=Aside0.mk (KeepBut.blk hk (g':=gb616) (o:=.cells #[.int .i64 t612,.bool t613,.int .i64 t614] 30 (0,0)) q90_ NB616_0.out (by simp));have n2_:=Aside0.mk (KeepBut.trans q25_ hk (.inl rfl));have n3_:=Aside0.mk (hb);have n4_:=Aside0.mk (hi);clear BK611;clear BK616;clear HK;clear HB;clear HI0;have BK611:=n0_;have BK616:=n1_;have HK:=n2_;have HB:=n3_;have HI0:=n4_;clear n0_ n1_ n2_ n3_ n4_;(try clear hb);(try clear hk);(try clear hi);have hnb70:=NB616_611.out;have hnc70:=NB611_616.out;have hnb71:=NB616_0.out;have hnc71:=NB0_616.out;have hcz72_0:w69.cell? ⟨gb616,0,none⟩ = some (.int .i64 t612):=(blk_cell BK616.out 0).trans rfl;have hcz72_1:w69.cell? ⟨gb616,1,none⟩ = some (.bool t613):=(blk_cell BK616.out 1).trans rfl;have hcz72_2:w69.cell? ⟨gb616,2,none⟩ = some (.int .i64 t614):=(blk_cell BK616.out 2).trans rfl;have hfz72_0:=blk_frozen BK616.out 0;have hfz72_1:=blk_frozen BK616.out 1;have hfz72_2:=blk_frozen BK616.out 2;have hnb73:=NB611_0.out;have hnc73:=NB0_611.out;have hcz74_0:w69.cell? ⟨gb611,0,none⟩ = some (.int .i64 0):=(blk_cell BK611.out 0).trans rfl;have hcz74_1:w69.cell? ⟨gb611,1,none⟩ = some (.bool false):=(blk_cell BK611.out 1).trans rfl;have hcz74_2:w69.cell? ⟨gb611,2,none⟩ = some (.int .i64 0):=(blk_cell BK611.out 2).trans rfl;have hfz74_0:=blk_frozen BK611.out 0;have hfz74_1:=blk_frozen BK611.out 1;have hfz74_2:=blk_frozen BK611.out 2))
    refine bodyPost_ret (results_cell_row rfl _ _ gb611 30 #[.int .i64 t612,.bool t613,.int .i64 (Int.tmod t614 40)] (0,0) _ rfl (by (with_reducible repeat (first | refine blk_drewN ?_ _ | refine blk_drew ?_ | refine blk_alloc ?_ _));refine blk_put (cs:=#[.int .i64 t612,.bool t613,.int .i64 0]) ?_ 2 _ rfl;(with_reducible repeat (first | refine blk_drewN ?_ _ | refine blk_drew ?_ | refine blk_alloc ?_ _));refine blk_put (cs:=#[.int .i64 t612,.bool false,.int .i64 0]) ?_ 1 _ rfl;(with_reducible repeat (first | refine blk_drewN ?_ _ | refine blk_drew ?_ | refine blk_alloc ?_ _));refine blk_put (cs:=#[.int .i64 0,.bool false,.int .i64 0]) ?_ 0 _ rfl;(with_reducible repeat (first | refine blk_drewN ?_ _ | refine blk_drew ?_ | refine blk_alloc ?_ _));refine blk_far ?_ NB611_616.out _;(with_reducible repeat (first | refine blk_drewN ?_ _ | refine blk_drew ?_ | refine blk_alloc ?_ _));exact BK611.out) Tryz.underlying30 rfl (by kernel_rfl)) rfl ?_
    exact ⟨q75_,q23_,q17_,q25_⟩
   rw [if_neg c68] at H
   have c68b0:decide (511 < t614) = false:=decide_eq_false c68
   clear c68
   simp only [Option.some.injEq,Prod.mk.injEq] at H
   obtain ⟨rfl,rfl,rfl,rfl⟩:=H
   go_wp2_with (first | ((with_reducible refine gate_callee (f:=44) rfl ?_);refine goesL_ (some 14) rfl rfl Tryz.func44 (by kernel_rfl) rfl #[.pointer (some ⟨g,0,none⟩),.int .i64 10] rfl q68_ ?_;(with_reducible refine (spec_l1Rd_below.calls g s0_0 x1001_2 10 t619 t620 w0 _ ?side1 ?side2 A25.out).mono ?_);(case side1 => exact q143_);(case side2 => exact q141_);rintro e w75 ⟨rfl,hi,hb,hk⟩;refine ⟨_,rfl,?_⟩;have n0_:=Aside0.mk (KeepBut.blk hk (g':=gb611) (o:=.cells #[.int .i64 0,.bool false,.int .i64 0] 30 (0,0)) q89_ NB611_0.out (by simp));have n1_:=Aside0.mk (KeepBut.blk hk (g':=gb616) (o:=.cells #[.int .i64 t612,.bool t613,.int .i64 t614] 30 (0,0)) q90_ NB616_0.out (by simp));have n2_:=Aside0.mk (KeepBut.trans q25_ hk (.inl rfl));have n3_:=Aside0.mk (hb);have n4_:=Aside0.mk (hi);clear BK611;clear BK616;clear HK;clear HB;clear HI0;have BK611:=n0_;have BK616:=n1_;have HK:=n2_;have HB:=n3_;have HI0:=n4_;clear n0_ n1_ n2_ n3_ n4_;(try clear hb);(try clear hk);(try clear hi);have hnb76:=NB616_611.out;have hnc76:=NB611_616.out;have hnb77:=NB616_0.out;have hnc77:=NB0_616.out;have hcz78_0:w75.cell? ⟨gb616,0,none⟩ = some (.int .i64 t612):=(blk_cell BK616.out 0).trans rfl;have hcz78_1:w75.cell? ⟨gb616,1,none⟩ = some (.bool t613):=(blk_cell BK616.out 1).trans rfl;have hcz78_2:w75.cell? ⟨gb616,2,none⟩ = some (.int .i64 t614):=(blk_cell BK616.out 2).trans rfl;have hfz78_0:=blk_frozen BK616.out 0;have hfz78_1:=blk_frozen BK616.out 1;have hfz78_2:=blk_frozen BK616.out 2;have hnb79:=NB611_0.out;have hnc79:=NB0_611.out;have hcz80_0:w75.cell? ⟨gb611,0,none⟩ = some (.int .i64 0):=(blk_cell BK611.out 0).trans rfl;have hcz80_1:w75.cell? ⟨gb611,1,none⟩ = some (.bool false):=(blk_cell BK611.out 1).trans rfl;have hcz80_2:w75.cell? ⟨gb611,2,none⟩ = some (.int .i64 0):=(blk_cell BK611.out 2).trans rfl;have hfz80_0:=blk_frozen BK611.out 0;have hfz80_1:=blk_frozen BK611.out 1;have hfz80_2:=blk_frozen BK611.out 2))
   refine bodyPost_ret (results_cell_row rfl _ _ gb611 30 #[.int .i64 t612,.bool t613,.int .i64 t614] (0,0) _ rfl q0_ Tryz.underlying30 rfl (by kernel_rfl)) rfl ?_
   exact ⟨q75_,q23_,q17_,q25_⟩
  rw [if_neg c67] at H
  have c67b0:decide (192 ≤ t612) = false:=decide_eq_false c67
  clear c67
  simp only [Option.some.injEq,Prod.mk.injEq] at H
  obtain ⟨rfl,rfl,rfl,rfl⟩:=H
  go_wp2_with (first | ((with_reducible refine gate_callee (f:=44) rfl ?_);refine goesL_ (some 14) rfl rfl Tryz.func44 (by kernel_rfl) rfl #[.pointer (some ⟨g,0,none⟩),.int .i64 10] rfl q68_ ?_;(with_reducible refine (spec_l1Rd_below.calls g s0_0 x1001_2 10 t619 t620 w0 _ ?side1 ?side2 A25.out).mono ?_);(case side1 => exact q143_);(case side2 => exact q141_);rintro e w81 ⟨rfl,hi,hb,hk⟩;refine ⟨_,rfl,?_⟩;have n0_:=Aside0.mk (KeepBut.blk hk (g':=gb611) (o:=.cells #[.int .i64 0,.bool false,.int .i64 0] 30 (0,0)) q89_ NB611_0.out (by simp));have n1_:=Aside0.mk (KeepBut.blk hk (g':=gb616) (o:=.cells #[.int .i64 t612,.bool t613,.int .i64 t614] 30 (0,0)) q90_ NB616_0.out (by simp));have n2_:=Aside0.mk (KeepBut.trans q25_ hk (.inl rfl));have n3_:=Aside0.mk (hb);have n4_:=Aside0.mk (hi);clear BK611;clear BK616;clear HK;clear HB;clear HI0;have BK611:=n0_;have BK616:=n1_;have HK:=n2_;have HB:=n3_;have HI0:=n4_;clear n0_ n1_ n2_ n3_ n4_;(try clear hb);(try clear hk);(try clear hi);have hnb82:=NB616_611.out;have hnc82:=NB611_616.out;have hnb83:=NB616_0.out;have hnc83:=NB0_616.out;have hcz84_0:w81.cell? ⟨gb616,0,none⟩ = some (.int .i64 t612):=(blk_cell BK616.out 0).trans rfl;have hcz84_1:w81.cell? ⟨gb616,1,none⟩ = some (.bool t613):=(blk_cell BK616.out 1).trans rfl;have hcz84_2:w81.cell? ⟨gb616,2,none⟩ = some (.int .i64 t614):=(blk_cell BK616.out 2).trans rfl;have hfz84_0:=blk_frozen BK616.out 0;have hfz84_1:=blk_frozen BK616.out 1;have hfz84_2:=blk_frozen BK616.out 2;have hnb85:=NB611_0.out;have hnc85:=NB0_611.out;have hcz86_0:w81.cell? ⟨gb611,0,none⟩ = some (.int .i64 0):=(blk_cell BK611.out 0).trans rfl;have hcz86_1:w81.cell? ⟨gb611,1,none⟩ = some (.bool false):=(blk_cell BK611.out 1).trans rfl;have hcz86_2:w81.cell? ⟨gb611,2,none⟩ = some (.int .i64 0):=(blk_cell BK611.out 2).trans rfl;have hfz86_0:=blk_frozen BK611.out 0;have hfz86_1:=blk_frozen BK611.out 1;have hfz86_2:=blk_frozen BK611.out 2))
  refine bodyPost_ret (results_cell_row rfl _ _ gb611 30 #[.int .i64 t612,.bool t613,.int .i64 t614] (0,0) _ rfl q0_ Tryz.underlying30 rfl (by kernel_rfl)) rfl ?_
  exact ⟨q75_,q23_,q17_,q25_⟩
end Go.Proofs.YtodlnnoekccmmaaGreatDoor.QFnMarks
