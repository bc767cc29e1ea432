/- The machine's side of a law,written by a program of this session for this claim. -/
import Derived.Test.YtodlnnoekccmmaaGreatDoorIQq
import Derived.Test.YtodlnnoekccmmaaGreatDoorIQFnInsTextsx0
import Derived.Test.YtodlnnoekccmmaaGreatDoorIQFnInsTextsx1
import Derived.Test.YtodlnnoekccmmaaGreatDoorIQFnInsTextsx2
import Derived.Test.YtodlnnoekccmmaaGreatDoorIQFnInsTextsx7
import Derived.Test.YtodlnnoekccmmaaGreatDoorIQFnInsTextsx11
import Derived.Test.YtodlnnoekccmmaaGreatDoorIQFnInsTextsx12
import Derived.Test.YtodlnnoekccmmaaGreatDoorIQFnInsTextsx13
import Derived.Test.YtodlnnoekccmmaaGreatDoorIQFnInsTextsx15
import Derived.Test.YtodlnnoekccmmaaGreatDoorIQFnInsTextsx16
import Derived.Test.YtodlnnoekccmmaaGreatDoorIQFnInsTextsx18
namespace Go.Proofs.YtodlnnoekccmmaaGreatDoor.QFnInsTexts
open Go.Proofs.YtodlnnoekccmmaaGreatDoor.Qq
open Go.RowKit Go.Proofs.YtodlnnoekccmmaaGreatDoor.LibX Go.Proofs.YtodlnnoekccmmaaGreatDoor.LibE Go.Proofs.YtodlnnoekccmmaaGreatDoor.LibCB Go.Proofs.YtodlnnoekccmmaaGreatDoorW.PrintWords Go.Proofs.YtodlnnoekccmmaaGreatDoorW.PrintLast Go.Proofs.YtodlnnoekccmmaaGreatDoorW.PrintMore
attribute [local go_sem] max2_int min2_int max_two min_two max_three min_three max_four min_four   -- for this text's walks alone
set_option maxHeartbeats 8000000
set_option maxRecDepth 100000
set_option linter.unusedVariables false
set_option linter.unusedSimpArgs false
attribute [local go_sem high] eqA30
def laws_FnInsTexts.j0:Nat → List Int → Bool → Option (Bool)
 | 0,_,_ => none
 | k + 1,x0,x40 => if x40 = true then (some false) else ((spec_DrawReadInsText.f k x0).bind fun t615 => ((impl_ReadInsText.f k t615).bind fun bt616 => ((spec_ReadInsText.f k t615).bind fun bt621 => (if (bt616.2.2.2 == bt621.2.2.2) = true then (if bt616.2.2.2 = true then ((impl_InsText.f k bt616.1 bt616.2.1 bt616.2.2.1).bind fun t626 => (some (t626.toList == t615.toList))) else (some true)) else (some false)))))
def laws_FnInsTexts.f (k:Nat) (l0:List Int):Option (Bool):=(laws_big.f l0).bind fun t602 => (if t602 = true then (some true) else ((spec_DrawInsText.f k l0).bind fun bt603 => ((impl_InsText.f k bt603.1 bt603.2.1 bt603.2.2).bind fun t607 => ((impl_ReadInsText.f k t607).bind fun bt608 => ((spec_InsText.f k bt603.1 bt603.2.1 bt603.2.2).bind fun t613 => (if t607.toList = t613.toList then ((impl_InsOk.f k bt603.1 bt603.2.1 bt603.2.2).bind fun t614 => (if (bt608.2.2.2 != t614) = true then (laws_FnInsTexts.j0 k l0 true) else (if bt608.2.2.2 = true then (laws_FnInsTexts.j0 k l0 (!(bt608.1 == bt603.1) || (!(bt608.2.1 == bt603.2.1) || (!(bt608.2.2.1 == bt603.2.2))))) else (laws_FnInsTexts.j0 k l0 false)))) else (laws_FnInsTexts.j0 k l0 true)))))))
theorem laws_FnInsTexts.calls (k:Nat) (A0:Option Addr) (c0:Nat) (l0:List Int) (r:Bool) (w:World) (hr0:Kd.C (Kd.int .u8) w A0 l0.length l0) (hc0:l0.length ≤ c0) (h:laws_FnInsTexts.f k l0 = some r) (hG:Go.Proofs.YtodlnnoekccmmaaGreatDoor.LibW.GL w:=by first | exact hG | exact hG.below q10_ | exact hG.drewN _) :
  Calls Tryz.prog 6 #[.slice A0 l0.length c0] w fun e w' => e = .returned (.bool r) ∧ Below w.heap.size w w':=by
 have hu30:=Tryz.underlying30
 have HR0:=Aside0.mk hr0
 have HC0:=Aside0.mk hc0
 clear hr0 hc0
 have HB:=Aside0.mk (Below.refl w.heap.size w)
 have H:=h;unfold laws_FnInsTexts.f at H
 clear h
 replace H:=Option.bind_eq_some_iff.mp H
 obtain ⟨t602,A20,H⟩:=H
 have A2:=Aside0.mk A20
 clear A20
 by_cases c3:t602 = true
 ·subst c3
  rewrite [if_pos rfl] at H
  obtain rfl:=Option.some.inj H
  go_enter Tryz.func6,Tryz.ntmps6
  go_wp2_with (first | ((with_reducible refine gate_callee (f:=11) rfl ?_);refine goesL_ (some 13) rfl rfl Tryz.func11 (by kernel_rfl) rfl #[.slice A0 l0.length c0] rfl q71_ ?_;(with_reducible refine (laws_big.calls _ _ l0 true _ ?side1 ?side2 A2.out).mono ?_);(case side1 => exact q137_);(case side2 => exact HC0.out);rintro e w' ⟨rfl,⟨nd,rfl⟩⟩;refine ⟨_,rfl,?_⟩))
  go_ret
  exact ⟨q74_,q72_⟩
 replace c3:=Bool.eq_false_iff.mpr c3
 subst c3
 rewrite [if_neg (show ¬ (false = true) by decide)] at H
 replace H:=Option.bind_eq_some_iff.mp H
 obtain ⟨⟨t603,t604,t605⟩,A40,H⟩:=H
 try dsimp -simprocs -eta only at H
 have A4:=Aside0.mk A40
 clear A40
 replace H:=Option.bind_eq_some_iff.mp H
 obtain ⟨t607,A50,H⟩:=H
 have A5:=Aside0.mk A50
 clear A50
 replace H:=Option.bind_eq_some_iff.mp H
 obtain ⟨⟨t608,t609,t610,t611⟩,A60,H⟩:=H
 try dsimp -simprocs -eta only at H
 have A6:=Aside0.mk A60
 clear A60
 have HC7:=Aside0.mk H
 clear H
 go_enter Tryz.func6,Tryz.ntmps6
 go_upto_region 6 with (first | ((with_reducible refine gate_callee (f:=11) rfl ?_);refine goesL_ (some 13) rfl rfl Tryz.func11 (by kernel_rfl) rfl #[.slice A0 l0.length c0] rfl q71_ ?_;(with_reducible refine (laws_big.calls _ _ l0 false _ ?side1 ?side2 A2.out).mono ?_);(case side1 => exact q137_);(case side2 => exact HC0.out);rintro e w' ⟨rfl,⟨nd,rfl⟩⟩;refine ⟨_,rfl,?_⟩) | ((with_reducible refine gate_callee (f:=25) rfl ?_);refine goesL_ (some 15) rfl rfl Tryz.func25 (by kernel_rfl) rfl #[.slice A0 l0.length c0] rfl q71_ ?_;(with_reducible refine (spec_DrawInsText.calls k _ _ l0 t603 t604 t605 _ ?side1 ?side2 A4.out).mono ?_);(case side1 => exact q137_);(case side2 => exact HC0.out);rintro e w8 ⟨rfl,hb⟩;refine ⟨_,rfl,?_⟩;replace HB:=Aside0.mk (below_step q72_ hb);(try clear hb)) | ((with_reducible refine gate_dst (N:=3) rfl ?_);refine box_event ?hg (N:=3) ?hd (cs:=#[.int .i64 0,.bool false,.int .i64 0]) (t:=30) ?hr ?_;(case hd => rfl);(case hg => rfl);(case hr => exact q139_);intro gb606 hg w9 hbox hb;have n0_:=Aside0.mk (below_step q72_ hb);have n1_:=Aside0.mk (hbox);have n2_:=Aside0.mk ((q56_:w.heap.size ≤ gb606));have n3_:=Aside0.mk ((q56_:w.heap.size ≤ gb606));clear HB;have HB:=n0_;have BK606:=n1_;have GW606:=n2_;have GE606:=n3_;clear n0_ n1_ n2_ n3_;clear hb hbox hg;have hcz10_0:w9.cell? ⟨gb606,0,none⟩ = some (.int .i64 0):=(blk_cell BK606.out 0).trans rfl;have hcz10_1:w9.cell? ⟨gb606,1,none⟩ = some (.bool false):=(blk_cell BK606.out 1).trans rfl;have hcz10_2:w9.cell? ⟨gb606,2,none⟩ = some (.int .i64 0):=(blk_cell BK606.out 2).trans rfl;have hfz10_0:=blk_frozen BK606.out 0;have hfz10_1:=blk_frozen BK606.out 1;have hfz10_2:=blk_frozen BK606.out 2) | ((with_reducible refine gate_callee (f:=26) rfl ?_);refine goesL_ (some 17) rfl rfl Tryz.func26 (by kernel_rfl) rfl #[.agg #[.int .i64 t603,.bool t604,.int .i64 t605]] rfl q71_ ?_;(with_reducible refine (impl_InsText.calls k t603 t604 t605 t607 _ A5.out).mono ?_);rintro e w11 ⟨rfl,hb⟩;refine ⟨_,rfl,?_⟩;have n0_:=Aside0.mk (blk_below (g:=gb606) (o:=.cells #[.int .i64 t603,.bool t604,.int .i64 t605] 30 (0,0)) (by (with_reducible repeat (first | refine blk_drewN ?_ _ | refine blk_drew ?_ | refine blk_alloc ?_ _));refine blk_put (cs:=#[.int .i64 t603,.bool t604,.int .i64 0]) ?_ 2 _ rfl;(with_reducible repeat (first | refine blk_drewN ?_ _ | refine blk_drew ?_ | refine blk_alloc ?_ _));refine blk_put (cs:=#[.int .i64 t603,.bool false,.int .i64 0]) ?_ 1 _ rfl;(with_reducible repeat (first | refine blk_drewN ?_ _ | refine blk_drew ?_ | refine blk_alloc ?_ _));refine blk_put (cs:=#[.int .i64 0,.bool false,.int .i64 0]) ?_ 0 _ rfl;(with_reducible repeat (first | refine blk_drewN ?_ _ | refine blk_drew ?_ | refine blk_alloc ?_ _));exact BK606.out) hb);have n1_:=Aside0.mk (below_step q65_ hb);clear BK606;clear HB;have BK606:=n0_;have HB:=n1_;clear n0_ n1_;(try clear hb)) | ((with_reducible refine gate_callee (f:=27) rfl ?_);refine goesL_ (some 20) rfl rfl Tryz.func27 (by kernel_rfl) rfl #[.string t607] rfl q71_ ?_;(with_reducible refine (impl_ReadInsText.calls k t607 t608 t609 t610 t611 _ A6.out).mono ?_);rintro e w12 ⟨rfl,hb⟩;refine ⟨_,rfl,?_⟩;have n0_:=Aside0.mk (blk_below (g:=gb606) (o:=.cells #[.int .i64 t603,.bool t604,.int .i64 t605] 30 (0,0)) q87_ hb);have n1_:=Aside0.mk (below_step q65_ hb);clear BK606;clear HB;have BK606:=n0_;have HB:=n1_;clear n0_ n1_;(try clear hb)) | ((with_reducible refine gate_dst (N:=5) rfl ?_);refine box_event ?hg (N:=5) ?hd (cs:=#[.int .i64 0,.bool false,.int .i64 0]) (t:=30) ?hr ?_;(case hd => rfl);(case hg => rfl);(case hr => exact q139_);intro gb612 hg w13 hbox hb;have n0_:=Aside0.mk (blk_below (g:=gb606) (o:=.cells #[.int .i64 t603,.bool t604,.int .i64 t605] 30 (0,0)) q87_ hb);have n1_:=Aside0.mk (below_step q65_ hb);have n2_:=Aside0.mk (hbox);have n3_:=Aside0.mk ((q47_:w.heap.size ≤ gb612));have n4_:=Aside0.mk ((q47_:w.heap.size ≤ gb612));have n5_:=Aside0.mk ((q21_:gb606 ≠ gb612));have n6_:=Aside0.mk ((q22_:gb612 ≠ gb606));clear BK606;clear HB;have BK606:=n0_;have HB:=n1_;have BK612:=n2_;have GW612:=n3_;have GE612:=n4_;have NB606_612:=n5_;have NB612_606:=n6_;clear n0_ n1_ n2_ n3_ n4_ n5_ n6_;clear hb hbox hg;have hnb14:=NB612_606.out;have hnc14:=NB606_612.out;have hcz15_0:w13.cell? ⟨gb612,0,none⟩ = some (.int .i64 0):=(blk_cell BK612.out 0).trans rfl;have hcz15_1:w13.cell? ⟨gb612,1,none⟩ = some (.bool false):=(blk_cell BK612.out 1).trans rfl;have hcz15_2:w13.cell? ⟨gb612,2,none⟩ = some (.int .i64 0):=(blk_cell BK612.out 2).trans rfl;have hfz15_0:=blk_frozen BK612.out 0;have hfz15_1:=blk_frozen BK612.out 1;have hfz15_2:=blk_frozen BK612.out 2))
 (try simp only [Act.put,List.setIfInBounds_toArray,List.set_cons_zero,List.set_cons_succ])
 go_cut [40] (fun v40 wc => ∃ (kq:Nat) (x40_6:Bool),v40 = .bool x40_6 ∧ Aside0 (laws_FnInsTexts.j0 kq l0 x40_6 = some r) ∧ Aside0 (kq ≤ k) ∧ Aside0 (wc.heap[gb606]? = some (.cells #[.int .i64 t603,.bool t604,.int .i64 t605] 30 (0,0))) ∧ Aside0 (wc.heap[gb612]? = some (.cells #[.int .i64 t608,.bool t609,.int .i64 t610] 30 (0,0))) ∧ Aside0 (Below w.heap.size w wc))
 case first =>
  have H:=HC7.out
  clear HC7
  replace H:=Option.bind_eq_some_iff.mp H
  obtain ⟨t613,A160,H⟩:=H
  have A16:=Aside0.mk A160
  clear A160
  by_cases c17:t607.toList = t613.toList
  ·rw [if_pos c17] at H
   have c17b0:(t607.toList == t613.toList) = true:=beq_iff_eq.mpr c17
   have c17b1:(t607.toList != t613.toList) = false:=bne_eq_false_iff_eq.mpr c17
   clear c17
   (first | rw [c17b0] | (simp only [i64_w,i32_w];rw [c17b0]) | rw [c17b9] | skip)
   replace H:=Option.bind_eq_some_iff.mp H
   obtain ⟨t614,A180,H⟩:=H
   have A18:=Aside0.mk A180
   clear A180
   by_cases c19:(t611 != t614) = true
   ·rw [if_pos c19] at H
    have c19b0:(t611 != t614) = true:=c19
    (try (have c19b1:decide (t611 = t614) = false:=by simpa using c19))
    (try (have c19b2:(t611 == t614) = false:=by simpa using c19))
    (try (have c19b3:¬ (t611 = t614):=by simpa using c19))
    clear c19
    have H':=Aside0.mk H
    clear H
    have hnb20:=NB606_612.out
    have hnc20:=NB612_606.out
    have hcz21_0:w13.cell? ⟨gb606,0,none⟩ = some (.int .i64 t603):=bz_ BK606 0
    have hcz21_1:w13.cell? ⟨gb606,1,none⟩ = some (.bool t604):=bz_ BK606 1
    have hcz21_2:w13.cell? ⟨gb606,2,none⟩ = some (.int .i64 t605):=bz_ BK606 2
    have hfz21_0:=blk_frozen BK606.out 0
    have hfz21_1:=blk_frozen BK606.out 1
    have hfz21_2:=blk_frozen BK606.out 2
    go_wp2_with (first | ((with_reducible refine gate_callee (f:=28) rfl ?_);refine goesL_ (some 25) rfl rfl Tryz.func28 (by kernel_rfl) rfl #[.agg #[.int .i64 t603,.bool t604,.int .i64 t605]] rfl q71_ ?_;(with_reducible refine (spec_InsText.calls k t603 t604 t605 t613 _ A16.out).mono ?_);rintro e w22 ⟨rfl,hb⟩;refine ⟨_,rfl,?_⟩;have n0_:=Aside0.mk (blk_below (g:=gb606) (o:=.cells #[.int .i64 t603,.bool t604,.int .i64 t605] 30 (0,0)) q7_ hb);have n1_:=Aside0.mk (blk_below (g:=gb612) (o:=.cells #[.int .i64 t608,.bool t609,.int .i64 t610] 30 (0,0)) q2_ hb);have n2_:=Aside0.mk (below_step q50_ hb);clear BK606;clear BK612;clear HB;have BK606:=n0_;have BK612:=n1_;have HB:=n2_;clear n0_ n1_ n2_;(try clear hb);have hcz23_0:w22.cell? ⟨gb606,0,none⟩ = some (.int .i64 t603):=(blk_cell BK606.out 0).trans rfl;have hcz23_1:w22.cell? ⟨gb606,1,none⟩ = some (.bool t604):=(blk_cell BK606.out 1).trans rfl;have hcz23_2:w22.cell? ⟨gb606,2,none⟩ = some (.int .i64 t605):=(blk_cell BK606.out 2).trans rfl;have hfz23_0:=blk_frozen BK606.out 0;have hfz23_1:=blk_frozen BK606.out 1;have hfz23_2:=blk_frozen BK606.out 2) | (go_at_call 20;(with_reducible refine (impl_InsOk.calls k t603 t604 t605 t614 _ A18.out).mono ?_);rintro e w24 ⟨rfl,hb⟩;have n0_:=Aside0.mk (blk_below (g:=gb606) (o:=.cells #[.int .i64 t603,.bool t604,.int .i64 t605] 30 (0,0)) q87_ hb);have n1_:=Aside0.mk (blk_below (g:=gb612) (o:=.cells #[.int .i64 t608,.bool t609,.int .i64 t610] 30 (0,0)) q88_ hb);have n2_:=Aside0.mk (below_step q50_ hb);clear BK606;clear BK612;clear HB;have BK606:=n0_;have BK612:=n1_;have HB:=n2_;clear n0_ n1_ n2_;(try clear hb)))
    go_meet
    case rel => exact ⟨_,(true),q92_,H',⟨q121_⟩,⟨q87_⟩,⟨q88_⟩,⟨q50_⟩⟩
   rw [if_neg c19] at H
   have c19b0:(t611 != t614) = false:=by simpa using c19
   (try (have c19b1:decide (t611 = t614) = true:=by simpa using c19))
   (try (have c19b2:(t611 == t614) = true:=by simpa using c19))
   clear c19
   by_cases c25:t611 = true
   ·subst c25
    rewrite [if_pos rfl] at H
    have H':=Aside0.mk H
    clear H
    have hnb26:=NB606_612.out
    have hnc26:=NB612_606.out
    have hcz27_0:w13.cell? ⟨gb606,0,none⟩ = some (.int .i64 t603):=bz_ BK606 0
    have hcz27_1:w13.cell? ⟨gb606,1,none⟩ = some (.bool t604):=bz_ BK606 1
    have hcz27_2:w13.cell? ⟨gb606,2,none⟩ = some (.int .i64 t605):=bz_ BK606 2
    have hfz27_0:=blk_frozen BK606.out 0
    have hfz27_1:=blk_frozen BK606.out 1
    have hfz27_2:=blk_frozen BK606.out 2
    go_wp2_with (first | ((with_reducible refine gate_callee (f:=28) rfl ?_);refine goesL_ (some 25) rfl rfl Tryz.func28 (by kernel_rfl) rfl #[.agg #[.int .i64 t603,.bool t604,.int .i64 t605]] rfl q71_ ?_;(with_reducible refine (spec_InsText.calls k t603 t604 t605 t613 _ A16.out).mono ?_);rintro e w28 ⟨rfl,hb⟩;refine ⟨_,rfl,?_⟩;have n0_:=Aside0.mk (blk_below (g:=gb606) (o:=.cells #[.int .i64 t603,.bool t604,.int .i64 t605] 30 (0,0)) q7_ hb);have n1_:=Aside0.mk (blk_below (g:=gb612) (o:=.cells #[.int .i64 t608,.bool t609,.int .i64 t610] 30 (0,0)) q2_ hb);have n2_:=Aside0.mk (below_step q50_ hb);clear BK606;clear BK612;clear HB;have BK606:=n0_;have BK612:=n1_;have HB:=n2_;clear n0_ n1_ n2_;(try clear hb);have hcz29_0:w28.cell? ⟨gb606,0,none⟩ = some (.int .i64 t603):=(blk_cell BK606.out 0).trans rfl;have hcz29_1:w28.cell? ⟨gb606,1,none⟩ = some (.bool t604):=(blk_cell BK606.out 1).trans rfl;have hcz29_2:w28.cell? ⟨gb606,2,none⟩ = some (.int .i64 t605):=(blk_cell BK606.out 2).trans rfl;have hfz29_0:=blk_frozen BK606.out 0;have hfz29_1:=blk_frozen BK606.out 1;have hfz29_2:=blk_frozen BK606.out 2) | (go_at_call 20;(with_reducible refine (impl_InsOk.calls k t603 t604 t605 t614 _ A18.out).mono ?_);rintro e w30 ⟨rfl,hb⟩;have n0_:=Aside0.mk (blk_below (g:=gb606) (o:=.cells #[.int .i64 t603,.bool t604,.int .i64 t605] 30 (0,0)) q87_ hb);have n1_:=Aside0.mk (blk_below (g:=gb612) (o:=.cells #[.int .i64 t608,.bool t609,.int .i64 t610] 30 (0,0)) q88_ hb);have n2_:=Aside0.mk (below_step q50_ hb);clear BK606;clear BK612;clear HB;have BK606:=n0_;have BK612:=n1_;have HB:=n2_;clear n0_ n1_ n2_;(try clear hb);have hcz31_0:w30.cell? ⟨gb612,0,none⟩ = some (.int .i64 t608):=(blk_cell BK612.out 0).trans rfl;have hcz31_1:w30.cell? ⟨gb612,1,none⟩ = some (.bool t609):=(blk_cell BK612.out 1).trans rfl;have hcz31_2:w30.cell? ⟨gb612,2,none⟩ = some (.int .i64 t610):=(blk_cell BK612.out 2).trans rfl;have hfz31_0:=blk_frozen BK612.out 0;have hfz31_1:=blk_frozen BK612.out 1;have hfz31_2:=blk_frozen BK612.out 2;have hcz32_0:w30.cell? ⟨gb606,0,none⟩ = some (.int .i64 t603):=(blk_cell BK606.out 0).trans rfl;have hcz32_1:w30.cell? ⟨gb606,1,none⟩ = some (.bool t604):=(blk_cell BK606.out 1).trans rfl;have hcz32_2:w30.cell? ⟨gb606,2,none⟩ = some (.int .i64 t605):=(blk_cell BK606.out 2).trans rfl;have hfz32_0:=blk_frozen BK606.out 0;have hfz32_1:=blk_frozen BK606.out 1;have hfz32_2:=blk_frozen BK606.out 2))
    go_meet
    case rel => exact ⟨_,((!(t608 == t603) || (!(t609 == t604) || (!(t610 == t605))))),q92_,H',⟨q121_⟩,⟨q87_⟩,⟨q88_⟩,⟨q50_⟩⟩
   replace c25:=Bool.eq_false_iff.mpr c25
   subst c25
   rewrite [if_neg (show ¬ (false = true) by decide)] at H
   have H':=Aside0.mk H
   clear H
   have hnb33:=NB606_612.out
   have hnc33:=NB612_606.out
   have hcz34_0:w13.cell? ⟨gb606,0,none⟩ = some (.int .i64 t603):=bz_ BK606 0
   have hcz34_1:w13.cell? ⟨gb606,1,none⟩ = some (.bool t604):=bz_ BK606 1
   have hcz34_2:w13.cell? ⟨gb606,2,none⟩ = some (.int .i64 t605):=bz_ BK606 2
   have hfz34_0:=blk_frozen BK606.out 0
   have hfz34_1:=blk_frozen BK606.out 1
   have hfz34_2:=blk_frozen BK606.out 2
   go_wp2_with (first | ((with_reducible refine gate_callee (f:=28) rfl ?_);refine goesL_ (some 25) rfl rfl Tryz.func28 (by kernel_rfl) rfl #[.agg #[.int .i64 t603,.bool t604,.int .i64 t605]] rfl q71_ ?_;(with_reducible refine (spec_InsText.calls k t603 t604 t605 t613 _ A16.out).mono ?_);rintro e w35 ⟨rfl,hb⟩;refine ⟨_,rfl,?_⟩;have n0_:=Aside0.mk (blk_below (g:=gb606) (o:=.cells #[.int .i64 t603,.bool t604,.int .i64 t605] 30 (0,0)) q7_ hb);have n1_:=Aside0.mk (blk_below (g:=gb612) (o:=.cells #[.int .i64 t608,.bool t609,.int .i64 t610] 30 (0,0)) q2_ hb);have n2_:=Aside0.mk (below_step q50_ hb);clear BK606;clear BK612;clear HB;have BK606:=n0_;have BK612:=n1_;have HB:=n2_;clear n0_ n1_ n2_;(try clear hb);have hcz36_0:w35.cell? ⟨gb606,0,none⟩ = some (.int .i64 t603):=(blk_cell BK606.out 0).trans rfl;have hcz36_1:w35.cell? ⟨gb606,1,none⟩ = some (.bool t604):=(blk_cell BK606.out 1).trans rfl;have hcz36_2:w35.cell? ⟨gb606,2,none⟩ = some (.int .i64 t605):=(blk_cell BK606.out 2).trans rfl;have hfz36_0:=blk_frozen BK606.out 0;have hfz36_1:=blk_frozen BK606.out 1;have hfz36_2:=blk_frozen BK606.out 2) | (go_at_call 20;(with_reducible refine (impl_InsOk.calls k t603 t604 t605 t614 _ A18.out).mono ?_);rintro e w37 ⟨rfl,hb⟩;have n0_:=Aside0.mk (blk_below (g:=gb606) (o:=.cells #[.int .i64 t603,.bool t604,.int .i64 t605] 30 (0,0)) q87_ hb);have n1_:=Aside0.mk (blk_below (g:=gb612) (o:=.cells #[.int .i64 t608,.bool t609,.int .i64 t610] 30 (0,0)) q88_ hb);have n2_:=Aside0.mk (below_step q50_ hb);clear BK606;clear BK612;clear HB;have BK606:=n0_;have BK612:=n1_;have HB:=n2_;clear n0_ n1_ n2_;(try clear hb)))
   go_meet
   case rel => exact ⟨_,(false),q92_,H',⟨q121_⟩,⟨q87_⟩,⟨q88_⟩,⟨q50_⟩⟩
  rw [if_neg c17] at H
  have c17b0:(t607.toList == t613.toList) = false:=beq_eq_false_iff_ne.mpr c17
  have c17b1:(t607.toList != t613.toList) = true:=bne_iff_ne.mpr c17
  (first | rw [c17b0] | (simp only [i64_w,i32_w];rw [c17b0]) | rw [c17b9] | skip)
  have H':=Aside0.mk H
  clear H
  have hnb38:=NB606_612.out
  have hnc38:=NB612_606.out
  have hcz39_0:w13.cell? ⟨gb606,0,none⟩ = some (.int .i64 t603):=bz_ BK606 0
  have hcz39_1:w13.cell? ⟨gb606,1,none⟩ = some (.bool t604):=bz_ BK606 1
  have hcz39_2:w13.cell? ⟨gb606,2,none⟩ = some (.int .i64 t605):=bz_ BK606 2
  have hfz39_0:=blk_frozen BK606.out 0
  have hfz39_1:=blk_frozen BK606.out 1
  have hfz39_2:=blk_frozen BK606.out 2
  go_wp2_with (first | ((with_reducible refine gate_callee (f:=28) rfl ?_);refine goesL_ (some 25) rfl rfl Tryz.func28 (by kernel_rfl) rfl #[.agg #[.int .i64 t603,.bool t604,.int .i64 t605]] rfl q71_ ?_;(with_reducible refine (spec_InsText.calls k t603 t604 t605 t613 _ A16.out).mono ?_);rintro e w40 ⟨rfl,hb⟩;refine ⟨_,rfl,?_⟩;have n0_:=Aside0.mk (blk_below (g:=gb606) (o:=.cells #[.int .i64 t603,.bool t604,.int .i64 t605] 30 (0,0)) q7_ hb);have n1_:=Aside0.mk (blk_below (g:=gb612) (o:=.cells #[.int .i64 t608,.bool t609,.int .i64 t610] 30 (0,0)) q2_ hb);have n2_:=Aside0.mk (below_step q50_ hb);clear BK606;clear BK612;clear HB;have BK606:=n0_;have BK612:=n1_;have HB:=n2_;clear n0_ n1_ n2_;(try clear hb)))
  go_meet
  case rel => exact ⟨_,(true),q92_,H',⟨q121_⟩,⟨q87_⟩,⟨q88_⟩,⟨q50_⟩⟩
 clear HC7
 try clear c1
 try clear c2
 try clear p2
 try clear c3
 try clear c6
 try clear p6
 try clear c11
 try clear c14
 try clear c17
 try clear c17b0
 try clear c17b1
 try clear c19
 try clear c19b0
 try clear c19b1
 try clear c19b2
 try clear c20
 try clear c25
 try clear c26
 try clear c27
 try clear c28
 try clear c33
 try clear c38
 try clear hcz10_0 hcz10_1 hcz10_2
 try clear hcz15_0 hcz15_1 hcz15_2
 try clear hcz21_0 hcz21_1 hcz21_2
 try clear hcz23_0 hcz23_1 hcz23_2
 try clear hcz27_0 hcz27_1 hcz27_2
 try clear hcz29_0 hcz29_1 hcz29_2
 try clear hcz31_0 hcz31_1 hcz31_2
 try clear hcz32_0 hcz32_1 hcz32_2
 try clear hcz34_0 hcz34_1 hcz34_2
 try clear hcz36_0 hcz36_1 hcz36_2
 try clear hcz39_0 hcz39_1 hcz39_2
 try clear hfz10_0 hfz10_1 hfz10_2
 try clear hfz15_0 hfz15_1 hfz15_2
 try clear hfz21_0 hfz21_1 hfz21_2
 try clear hfz23_0 hfz23_1 hfz23_2
 try clear hfz27_0 hfz27_1 hfz27_2
 try clear hfz29_0 hfz29_1 hfz29_2
 try clear hfz31_0 hfz31_1 hfz31_2
 try clear hfz32_0 hfz32_1 hfz32_2
 try clear hfz34_0 hfz34_1 hfz34_2
 try clear hfz36_0 hfz36_1 hfz36_2
 try clear hfz39_0 hfz39_1 hfz39_2
 obtain ⟨kq,x40_6,rfl,HA,HJ6,BK606,BK612,HB⟩:=hcut
 cases kq with
 | zero => exact absurd HA.out (by simp [laws_FnInsTexts.j0])
 | succ kj6 =>
  have H:=HA.out
  clear HA
  simp only [laws_FnInsTexts.j0] at H
  by_cases c41:x40_6 = true
  ·subst c41
   rewrite [if_pos rfl] at H
   obtain rfl:=Option.some.inj H
   go_wp2
   go_ret
   exact ⟨q74_,q50_⟩
  replace c41:=Bool.eq_false_iff.mpr c41
  subst c41
  rewrite [if_neg (show ¬ (false = true) by decide)] at H
  replace H:=Option.bind_eq_some_iff.mp H
  obtain ⟨t615,A420,H⟩:=H
  have A42:=Aside0.mk A420
  clear A420
  replace H:=Option.bind_eq_some_iff.mp H
  obtain ⟨⟨t616,t617,t618,t619⟩,A430,H⟩:=H
  try dsimp -simprocs -eta only at H
  have A43:=Aside0.mk A430
  clear A430
  replace H:=Option.bind_eq_some_iff.mp H
  obtain ⟨⟨t621,t622,t623,t624⟩,A440,H⟩:=H
  try dsimp -simprocs -eta only at H
  have A44:=Aside0.mk A440
  clear A440
  by_cases c45:(t619 == t624) = true
  ·rw [if_pos c45] at H
   have c45b0:(t619 == t624) = true:=c45
   (try (have c45b1:decide (t619 = t624) = true:=by simpa using c45))
   (try (have c45b2:(t619 == t624) = true:=by simpa using c45))
   clear c45
   by_cases c46:t619 = true
   ·subst c46
    rewrite [if_pos rfl] at H
    replace H:=Option.bind_eq_some_iff.mp H
    obtain ⟨t626,A470,H⟩:=H
    have A47:=Aside0.mk A470
    clear A470
    obtain rfl:=Option.some.inj H
    go_wp2_with (first | ((with_reducible refine gate_callee (f:=29) rfl ?_);refine goesL_ (some 42) rfl rfl Tryz.func29 (by kernel_rfl) rfl #[.slice A0 l0.length c0] rfl q71_ ?_;(with_reducible refine (spec_DrawReadInsText.calls kj6 _ _ l0 t615 _ ?side1 ?side2 A42.out).mono ?_);(case side1 => exact q135_);(case side2 => exact HC0.out);rintro e w48 ⟨rfl,hb⟩;refine ⟨_,rfl,?_⟩;have n0_:=Aside0.mk (blk_below (g:=gb606) (o:=.cells #[.int .i64 t603,.bool t604,.int .i64 t605] 30 (0,0)) q87_ hb);have n1_:=Aside0.mk (blk_below (g:=gb612) (o:=.cells #[.int .i64 t608,.bool t609,.int .i64 t610] 30 (0,0)) q88_ hb);have n2_:=Aside0.mk (below_step q50_ hb);clear BK606;clear BK612;clear HB;have BK606:=n0_;have BK612:=n1_;have HB:=n2_;clear n0_ n1_ n2_;(try clear hb)) | ((with_reducible refine gate_callee (f:=27) rfl ?_);refine goesL_ (some 45) rfl rfl Tryz.func27 (by kernel_rfl) rfl #[.string t615] rfl q71_ ?_;(with_reducible refine (impl_ReadInsText.calls kj6 t615 t616 t617 t618 true _ A43.out).mono ?_);rintro e w49 ⟨rfl,hb⟩;refine ⟨_,rfl,?_⟩;have n0_:=Aside0.mk (blk_below (g:=gb606) (o:=.cells #[.int .i64 t603,.bool t604,.int .i64 t605] 30 (0,0)) q87_ hb);have n1_:=Aside0.mk (blk_below (g:=gb612) (o:=.cells #[.int .i64 t608,.bool t609,.int .i64 t610] 30 (0,0)) q88_ hb);have n2_:=Aside0.mk (below_step q50_ hb);clear BK606;clear BK612;clear HB;have BK606:=n0_;have BK612:=n1_;have HB:=n2_;clear n0_ n1_ n2_;(try clear hb)) | ((with_reducible refine gate_dst (N:=8) rfl ?_);refine box_event ?hg (N:=8) ?hd (cs:=#[.int .i64 0,.bool false,.int .i64 0]) (t:=30) ?hr ?_;(case hd => rfl);(case hg => rfl);(case hr => exact q139_);intro gb620 hg w50 hbox hb;have n0_:=Aside0.mk (blk_below (g:=gb606) (o:=.cells #[.int .i64 t603,.bool t604,.int .i64 t605] 30 (0,0)) q87_ hb);have n1_:=Aside0.mk (blk_below (g:=gb612) (o:=.cells #[.int .i64 t608,.bool t609,.int .i64 t610] 30 (0,0)) q88_ hb);have n2_:=Aside0.mk (below_step q50_ hb);have n3_:=Aside0.mk (hbox);have n4_:=Aside0.mk ((q32_:w.heap.size ≤ gb620));have n5_:=Aside0.mk ((q32_:w.heap.size ≤ gb620));have n6_:=Aside0.mk ((q21_:gb606 ≠ gb620));have n7_:=Aside0.mk ((q22_:gb620 ≠ gb606));have n8_:=Aside0.mk ((q23_:gb612 ≠ gb620));have n9_:=Aside0.mk ((q24_:gb620 ≠ gb612));clear BK606;clear BK612;clear HB;have BK606:=n0_;have BK612:=n1_;have HB:=n2_;have BK620:=n3_;have GW620:=n4_;have GE620:=n5_;have NB606_620:=n6_;have NB620_606:=n7_;have NB612_620:=n8_;have NB620_612:=n9_;clear n0_ n1_ n2_ n3_ n4_ n5_ n6_ n7_ n8_ n9_;clear hb hbox hg;have hnb51:=NB620_606.out;have hnc51:=NB606_620.out;have hnb52:=NB620_612.out;have hnc52:=NB612_620.out;have hcz53_0:w50.cell? ⟨gb620,0,none⟩ = some (.int .i64 0):=(blk_cell BK620.out 0).trans rfl;have hcz53_1:w50.cell? ⟨gb620,1,none⟩ = some (.bool false):=(blk_cell BK620.out 1).trans rfl;have hcz53_2:w50.cell? ⟨gb620,2,none⟩ = some (.int .i64 0):=(blk_cell BK620.out 2).trans rfl;have hfz53_0:=blk_frozen BK620.out 0;have hfz53_1:=blk_frozen BK620.out 1;have hfz53_2:=blk_frozen BK620.out 2) | ((with_reducible refine gate_callee (f:=30) rfl ?_);refine goesL_ (some 50) rfl rfl Tryz.func30 (by kernel_rfl) rfl #[.string t615] rfl q71_ ?_;(with_reducible refine (spec_ReadInsText.calls kj6 t615 t621 t622 t623 t624 _ A44.out).mono ?_);rintro e w54 ⟨rfl,hb⟩;refine ⟨_,rfl,?_⟩;have n0_:=Aside0.mk (blk_below (g:=gb606) (o:=.cells #[.int .i64 t603,.bool t604,.int .i64 t605] 30 (0,0)) q8_ hb);have n1_:=Aside0.mk (blk_below (g:=gb612) (o:=.cells #[.int .i64 t608,.bool t609,.int .i64 t610] 30 (0,0)) q9_ hb);have n2_:=Aside0.mk (blk_below (g:=gb620) (o:=.cells #[.int .i64 t616,.bool t617,.int .i64 t618] 30 (0,0)) q3_ hb);have n3_:=Aside0.mk (below_step q34_ hb);clear BK606;clear BK612;clear BK620;clear HB;have BK606:=n0_;have BK612:=n1_;have BK620:=n2_;have HB:=n3_;clear n0_ n1_ n2_ n3_;(try clear hb)) | ((with_reducible refine gate_dst (N:=10) rfl ?_);refine box_event ?hg (N:=10) ?hd (cs:=#[.int .i64 0,.bool false,.int .i64 0]) (t:=30) ?hr ?_;(case hd => rfl);(case hg => rfl);(case hr => exact q139_);intro gb625 hg w55 hbox hb;have n0_:=Aside0.mk (blk_below (g:=gb606) (o:=.cells #[.int .i64 t603,.bool t604,.int .i64 t605] 30 (0,0)) q87_ hb);have n1_:=Aside0.mk (blk_below (g:=gb612) (o:=.cells #[.int .i64 t608,.bool t609,.int .i64 t610] 30 (0,0)) q88_ hb);have n2_:=Aside0.mk (blk_below (g:=gb620) (o:=.cells #[.int .i64 t616,.bool t617,.int .i64 t618] 30 (0,0)) q89_ hb);have n3_:=Aside0.mk (below_step q34_ hb);have n4_:=Aside0.mk (hbox);have n5_:=Aside0.mk ((q13_:w.heap.size ≤ gb625));have n6_:=Aside0.mk ((q13_:w.heap.size ≤ gb625));have n7_:=Aside0.mk ((q21_:gb606 ≠ gb625));have n8_:=Aside0.mk ((q22_:gb625 ≠ gb606));have n9_:=Aside0.mk ((q23_:gb612 ≠ gb625));have n10_:=Aside0.mk ((q24_:gb625 ≠ gb612));have n11_:=Aside0.mk ((q25_:gb620 ≠ gb625));have n12_:=Aside0.mk ((q26_:gb625 ≠ gb620));clear BK606;clear BK612;clear BK620;clear HB;have BK606:=n0_;have BK612:=n1_;have BK620:=n2_;have HB:=n3_;have BK625:=n4_;have GW625:=n5_;have GE625:=n6_;have NB606_625:=n7_;have NB625_606:=n8_;have NB612_625:=n9_;have NB625_612:=n10_;have NB620_625:=n11_;have NB625_620:=n12_;clear n0_ n1_ n2_ n3_ n4_ n5_ n6_ n7_ n8_ n9_ n10_ n11_ n12_;clear hb hbox hg;have hnb56:=NB625_606.out;have hnc56:=NB606_625.out;have hnb57:=NB625_612.out;have hnc57:=NB612_625.out;have hnb58:=NB625_620.out;have hnc58:=NB620_625.out;have hcz59_0:w55.cell? ⟨gb625,0,none⟩ = some (.int .i64 0):=(blk_cell BK625.out 0).trans rfl;have hcz59_1:w55.cell? ⟨gb625,1,none⟩ = some (.bool false):=(blk_cell BK625.out 1).trans rfl;have hcz59_2:w55.cell? ⟨gb625,2,none⟩ = some (.int .i64 0):=(blk_cell BK625.out 2).trans rfl;have hfz59_0:=blk_frozen BK625.out 0;have hfz59_1:=blk_frozen BK625.out 1;have hfz59_2:=blk_frozen BK625.out 2;have hcz60_0:w55.cell? ⟨gb620,0,none⟩ = some (.int .i64 t616):=(blk_cell BK620.out 0).trans rfl;have hcz60_1:w55.cell? ⟨gb620,1,none⟩ = some (.bool t617):=(blk_cell BK620.out 1).trans rfl;have hcz60_2:w55.cell? ⟨gb620,2,none⟩ = some (.int .i64 t618):=(blk_cell BK620.out 2).trans rfl;have hfz60_0:=blk_frozen BK620.out 0;have hfz60_1:=blk_frozen BK620.out 1;have hfz60_2:=blk_frozen BK620.out 2) | (go_at_call 26;(with_reducible refine (impl_InsText.calls kj6 t616 t617 t618 t626 _ A47.out).mono ?_);rintro e w61 ⟨rfl,hb⟩;have n0_:=Aside0.mk (blk_below (g:=gb606) (o:=.cells #[.int .i64 t603,.bool t604,.int .i64 t605] 30 (0,0)) (by (with_reducible repeat (first | refine blk_drewN ?_ _ | refine blk_drew ?_ | refine blk_alloc ?_ _));refine blk_far ?_ NB606_625.out _;(with_reducible repeat (first | refine blk_drewN ?_ _ | refine blk_drew ?_ | refine blk_alloc ?_ _));refine blk_far ?_ NB606_625.out _;(with_reducible repeat (first | refine blk_drewN ?_ _ | refine blk_drew ?_ | refine blk_alloc ?_ _));refine blk_far ?_ NB606_625.out _;(with_reducible repeat (first | refine blk_drewN ?_ _ | refine blk_drew ?_ | refine blk_alloc ?_ _));exact BK606.out) hb);have n1_:=Aside0.mk (blk_below (g:=gb612) (o:=.cells #[.int .i64 t608,.bool t609,.int .i64 t610] 30 (0,0)) (by (with_reducible repeat (first | refine blk_drewN ?_ _ | refine blk_drew ?_ | refine blk_alloc ?_ _));refine blk_far ?_ NB612_625.out _;(with_reducible repeat (first | refine blk_drewN ?_ _ | refine blk_drew ?_ | refine blk_alloc ?_ _));refine blk_far ?_ NB612_625.out _;(with_reducible repeat (first | refine blk_drewN ?_ _ | refine blk_drew ?_ | refine blk_alloc ?_ _));refine blk_far ?_ NB612_625.out _;(with_reducible repeat (first | refine blk_drewN ?_ _ | refine blk_drew ?_ | refine blk_alloc ?_ _));exact BK612.out) hb);have n2_:=Aside0.mk (blk_below (g:=gb620) (o:=.cells #[.int .i64 t616,.bool t617,.int .i64 t618] 30 (0,0)) (by (with_reducible repeat (first | refine blk_drewN ?_ _ | refine blk_drew ?_ | refine blk_alloc ?_ _));refine blk_far ?_ NB620_625.out _;(with_reducible repeat (first | refine blk_drewN ?_ _ | refine blk_drew ?_ | refine blk_alloc ?_ _));refine blk_far ?_ NB620_625.out _;(with_reducible repeat (first | refine blk_drewN ?_ _ | refine blk_drew ?_ | refine blk_alloc ?_ _));refine blk_far ?_ NB620_625.out _;(with_reducible repeat (first | refine blk_drewN ?_ _ | refine blk_drew ?_ | refine blk_alloc ?_ _));exact BK620.out) hb);have n3_:=Aside0.mk (blk_below (g:=gb625) (o:=.cells #[.int .i64 t621,.bool t622,.int .i64 t623] 30 (0,0)) (by (with_reducible repeat (first | refine blk_drewN ?_ _ | refine blk_drew ?_ | refine blk_alloc ?_ _));refine blk_put (cs:=#[.int .i64 t621,.bool t622,.int .i64 0]) ?_ 2 _ rfl;(with_reducible repeat (first | refine blk_drewN ?_ _ | refine blk_drew ?_ | refine blk_alloc ?_ _));refine blk_put (cs:=#[.int .i64 t621,.bool false,.int .i64 0]) ?_ 1 _ rfl;(with_reducible repeat (first | refine blk_drewN ?_ _ | refine blk_drew ?_ | refine blk_alloc ?_ _));refine blk_put (cs:=#[.int .i64 0,.bool false,.int .i64 0]) ?_ 0 _ rfl;(with_reducible repeat (first | refine blk_drewN ?_ _ | refine blk_drew ?_ | refine blk_alloc ?_ _));exact BK625.out) hb);have n4_:=Aside0.mk (below_step q14_ hb);clear BK606;clear BK612;clear BK620;clear BK625;clear HB;have BK606:=n0_;have BK612:=n1_;have BK620:=n2_;have BK625:=n3_;have HB:=n4_;clear n0_ n1_ n2_ n3_ n4_;(try clear hb)))
    go_ret
    exact ⟨q74_,q14_⟩
   replace c46:=Bool.eq_false_iff.mpr c46
   subst c46
   rewrite [if_neg (show ¬ (false = true) by decide)] at H
   obtain rfl:=Option.some.inj H
   go_wp2_with (first | ((with_reducible refine gate_callee (f:=29) rfl ?_);refine goesL_ (some 42) rfl rfl Tryz.func29 (by kernel_rfl) rfl #[.slice A0 l0.length c0] rfl q71_ ?_;(with_reducible refine (spec_DrawReadInsText.calls kj6 _ _ l0 t615 _ ?side1 ?side2 A42.out).mono ?_);(case side1 => exact q135_);(case side2 => exact HC0.out);rintro e w62 ⟨rfl,hb⟩;refine ⟨_,rfl,?_⟩;have n0_:=Aside0.mk (blk_below (g:=gb606) (o:=.cells #[.int .i64 t603,.bool t604,.int .i64 t605] 30 (0,0)) q87_ hb);have n1_:=Aside0.mk (blk_below (g:=gb612) (o:=.cells #[.int .i64 t608,.bool t609,.int .i64 t610] 30 (0,0)) q88_ hb);have n2_:=Aside0.mk (below_step q50_ hb);clear BK606;clear BK612;clear HB;have BK606:=n0_;have BK612:=n1_;have HB:=n2_;clear n0_ n1_ n2_;(try clear hb)) | ((with_reducible refine gate_callee (f:=27) rfl ?_);refine goesL_ (some 45) rfl rfl Tryz.func27 (by kernel_rfl) rfl #[.string t615] rfl q71_ ?_;(with_reducible refine (impl_ReadInsText.calls kj6 t615 t616 t617 t618 false _ A43.out).mono ?_);rintro e w63 ⟨rfl,hb⟩;refine ⟨_,rfl,?_⟩;have n0_:=Aside0.mk (blk_below (g:=gb606) (o:=.cells #[.int .i64 t603,.bool t604,.int .i64 t605] 30 (0,0)) q87_ hb);have n1_:=Aside0.mk (blk_below (g:=gb612) (o:=.cells #[.int .i64 t608,.bool t609,.int .i64 t610] 30 (0,0)) q88_ hb);have n2_:=Aside0.mk (below_step q50_ hb);clear BK606;clear BK612;clear HB;have BK606:=n0_;have BK612:=n1_;have HB:=n2_;clear n0_ n1_ n2_;(try clear hb)) | ((with_reducible refine gate_dst (N:=8) rfl ?_);refine box_event ?hg (N:=8) ?hd (cs:=#[.int .i64 0,.bool false,.int .i64 0]) (t:=30) ?hr ?_;(case hd => rfl);(case hg => rfl);(case hr => exact q139_);intro gb620 hg w64 hbox hb;have n0_:=Aside0.mk (blk_below (g:=gb606) (o:=.cells #[.int .i64 t603,.bool t604,.int .i64 t605] 30 (0,0)) q87_ hb);have n1_:=Aside0.mk (blk_below (g:=gb612) (o:=.cells #[.int .i64 t608,.bool t609,.int .i64 t610] 30 (0,0)) q88_ hb);have n2_:=Aside0.mk (below_step q50_ hb);have n3_:=Aside0.mk (hbox);have n4_:=Aside0.mk ((q32_:w.heap.size ≤ gb620));have n5_:=Aside0.mk ((q32_:w.heap.size ≤ gb620));have n6_:=Aside0.mk ((q21_:gb606 ≠ gb620));have n7_:=Aside0.mk ((q22_:gb620 ≠ gb606));have n8_:=Aside0.mk ((q23_:gb612 ≠ gb620));have n9_:=Aside0.mk ((q24_:gb620 ≠ gb612));clear BK606;clear BK612;clear HB;have BK606:=n0_;have BK612:=n1_;have HB:=n2_;have BK620:=n3_;have GW620:=n4_;have GE620:=n5_;have NB606_620:=n6_;have NB620_606:=n7_;have NB612_620:=n8_;have NB620_612:=n9_;clear n0_ n1_ n2_ n3_ n4_ n5_ n6_ n7_ n8_ n9_;clear hb hbox hg;have hnb65:=NB620_606.out;have hnc65:=NB606_620.out;have hnb66:=NB620_612.out;have hnc66:=NB612_620.out;have hcz67_0:w64.cell? ⟨gb620,0,none⟩ = some (.int .i64 0):=(blk_cell BK620.out 0).trans rfl;have hcz67_1:w64.cell? ⟨gb620,1,none⟩ = some (.bool false):=(blk_cell BK620.out 1).trans rfl;have hcz67_2:w64.cell? ⟨gb620,2,none⟩ = some (.int .i64 0):=(blk_cell BK620.out 2).trans rfl;have hfz67_0:=blk_frozen BK620.out 0;have hfz67_1:=blk_frozen BK620.out 1;have hfz67_2:=blk_frozen BK620.out 2) | ((with_reducible refine gate_callee (f:=30) rfl ?_);refine goesL_ (some 50) rfl rfl Tryz.func30 (by kernel_rfl) rfl #[.string t615] rfl q71_ ?_;(with_reducible refine (spec_ReadInsText.calls kj6 t615 t621 t622 t623 t624 _ A44.out).mono ?_);rintro e w68 ⟨rfl,hb⟩;refine ⟨_,rfl,?_⟩;have n0_:=Aside0.mk (blk_below (g:=gb606) (o:=.cells #[.int .i64 t603,.bool t604,.int .i64 t605] 30 (0,0)) q8_ hb);have n1_:=Aside0.mk (blk_below (g:=gb612) (o:=.cells #[.int .i64 t608,.bool t609,.int .i64 t610] 30 (0,0)) q9_ hb);have n2_:=Aside0.mk (blk_below (g:=gb620) (o:=.cells #[.int .i64 t616,.bool t617,.int .i64 t618] 30 (0,0)) q3_ hb);have n3_:=Aside0.mk (below_step q34_ hb);clear BK606;clear BK612;clear BK620;clear HB;have BK606:=n0_;have BK612:=n1_;have BK620:=n2_;have HB:=n3_;clear n0_ n1_ n2_ n3_;(try clear hb)) | ((with_reducible refine gate_dst (N:=10) rfl ?_);refine box_event ?hg (N:=10) ?hd (cs:=#[.int .i64 0,.bool false,.int .i64 0]) (t:=30) ?hr ?_;(case hd => rfl);(case hg => rfl);(case hr => exact q139_);intro gb625 hg w69 hbox hb;have n0_:=Aside0.mk (blk_below (g:=gb606) (o:=.cells #[.int .i64 t603,.bool t604,.int .i64 t605] 30 (0,0)) q87_ hb);have n1_:=Aside0.mk (blk_below (g:=gb612) (o:=.cells #[.int .i64 t608,.bool t609,.int .i64 t610] 30 (0,0)) q88_ hb);have n2_:=Aside0.mk (blk_below (g:=gb620) (o:=.cells #[.int .i64 t616,.bool t617,.int .i64 t618] 30 (0,0)) q89_ hb);have n3_:=Aside0.mk (below_step q34_ hb);have n4_:=Aside0.mk (hbox);have n5_:=Aside0.mk ((q13_:w.heap.size ≤ gb625));have n6_:=Aside0.mk ((q13_:w.heap.size ≤ gb625));have n7_:=Aside0.mk ((q21_:gb606 ≠ gb625));have n8_:=Aside0.mk ((q22_:gb625 ≠ gb606));have n9_:=Aside0.mk ((q23_:gb612 ≠ gb625));have n10_:=Aside0.mk ((q24_:gb625 ≠ gb612));have n11_:=Aside0.mk ((q25_:gb620 ≠ gb625));have n12_:=Aside0.mk ((q26_:gb625 ≠ gb620));clear BK606;clear BK612;clear BK620;clear HB;have BK606:=n0_;have BK612:=n1_;have BK620:=n2_;have HB:=n3_;have BK625:=n4_;have GW625:=n5_;have GE625:=n6_;have NB606_625:=n7_;have NB625_606:=n8_;have NB612_625:=n9_;have NB625_612:=n10_;have NB620_625:=n11_;have NB625_620:=n12_;clear n0_ n1_ n2_ n3_ n4_ n5_ n6_ n7_ n8_ n9_ n10_ n11_ n12_;clear hb hbox hg;have hnb70:=NB625_606.out;have hnc70:=NB606_625.out;have hnb71:=NB625_612.out;have hnc71:=NB612_625.out;have hnb72:=NB625_620.out;have hnc72:=NB620_625.out;have hcz73_0:w69.cell? ⟨gb625,0,none⟩ = some (.int .i64 0):=(blk_cell BK625.out 0).trans rfl;have hcz73_1:w69.cell? ⟨gb625,1,none⟩ = some (.bool false):=(blk_cell BK625.out 1).trans rfl;have hcz73_2:w69.cell? ⟨gb625,2,none⟩ = some (.int .i64 0):=(blk_cell BK625.out 2).trans rfl;have hfz73_0:=blk_frozen BK625.out 0;have hfz73_1:=blk_frozen BK625.out 1;have hfz73_2:=blk_frozen BK625.out 2))
   go_ret
   exact ⟨q74_,q14_⟩
  rw [if_neg c45] at H
  have c45b0:(t619 == t624) = false:=by simpa using c45
  (try (have c45b1:decide (t619 = t624) = false:=by simpa using c45))
  (try (have c45b2:(t619 == t624) = false:=by simpa using c45))
  (try (have c45b3:¬ (t619 = t624):=by simpa using c45))
  clear c45
  obtain rfl:=Option.some.inj H
  go_wp2_with (first | ((with_reducible refine gate_callee (f:=29) rfl ?_);refine goesL_ (some 42) rfl rfl Tryz.func29 (by kernel_rfl) rfl #[.slice A0 l0.length c0] rfl q71_ ?_;(with_reducible refine (spec_DrawReadInsText.calls kj6 _ _ l0 t615 _ ?side1 ?side2 A42.out).mono ?_);(case side1 => exact q135_);(case side2 => exact HC0.out);rintro e w74 ⟨rfl,hb⟩;refine ⟨_,rfl,?_⟩;have n0_:=Aside0.mk (blk_below (g:=gb606) (o:=.cells #[.int .i64 t603,.bool t604,.int .i64 t605] 30 (0,0)) q87_ hb);have n1_:=Aside0.mk (blk_below (g:=gb612) (o:=.cells #[.int .i64 t608,.bool t609,.int .i64 t610] 30 (0,0)) q88_ hb);have n2_:=Aside0.mk (below_step q50_ hb);clear BK606;clear BK612;clear HB;have BK606:=n0_;have BK612:=n1_;have HB:=n2_;clear n0_ n1_ n2_;(try clear hb)) | ((with_reducible refine gate_callee (f:=27) rfl ?_);refine goesL_ (some 45) rfl rfl Tryz.func27 (by kernel_rfl) rfl #[.string t615] rfl q71_ ?_;(with_reducible refine (impl_ReadInsText.calls kj6 t615 t616 t617 t618 t619 _ A43.out).mono ?_);rintro e w75 ⟨rfl,hb⟩;refine ⟨_,rfl,?_⟩;have n0_:=Aside0.mk (blk_below (g:=gb606) (o:=.cells #[.int .i64 t603,.bool t604,.int .i64 t605] 30 (0,0)) q87_ hb);have n1_:=Aside0.mk (blk_below (g:=gb612) (o:=.cells #[.int .i64 t608,.bool t609,.int .i64 t610] 30 (0,0)) q88_ hb);have n2_:=Aside0.mk (below_step q50_ hb);clear BK606;clear BK612;clear HB;have BK606:=n0_;have BK612:=n1_;have HB:=n2_;clear n0_ n1_ n2_;(try clear hb)) | ((with_reducible refine gate_dst (N:=8) rfl ?_);refine box_event ?hg (N:=8) ?hd (cs:=#[.int .i64 0,.bool false,.int .i64 0]) (t:=30) ?hr ?_;(case hd => rfl);(case hg => rfl);(case hr => exact q139_);intro gb620 hg w76 hbox hb;have n0_:=Aside0.mk (blk_below (g:=gb606) (o:=.cells #[.int .i64 t603,.bool t604,.int .i64 t605] 30 (0,0)) q87_ hb);have n1_:=Aside0.mk (blk_below (g:=gb612) (o:=.cells #[.int .i64 t608,.bool t609,.int .i64 t610] 30 (0,0)) q88_ hb);have n2_:=Aside0.mk (below_step q50_ hb);have n3_:=Aside0.mk (hbox);have n4_:=Aside0.mk ((q32_:w.heap.size ≤ gb620));have n5_:=Aside0.mk ((q32_:w.heap.size ≤ gb620));have n6_:=Aside0.mk ((q21_:gb606 ≠ gb620));have n7_:=Aside0.mk ((q22_:gb620 ≠ gb606));have n8_:=Aside0.mk ((q23_:gb612 ≠ gb620));have n9_:=Aside0.mk ((q24_:gb620 ≠ gb612));clear BK606;clear BK612;clear HB;have BK606:=n0_;have BK612:=n1_;have HB:=n2_;have BK620:=n3_;have GW620:=n4_;have GE620:=n5_;have NB606_620:=n6_;have NB620_606:=n7_;have NB612_620:=n8_;have NB620_612:=n9_;clear n0_ n1_ n2_ n3_ n4_ n5_ n6_ n7_ n8_ n9_;clear hb hbox hg;have hnb77:=NB620_606.out;have hnc77:=NB606_620.out;have hnb78:=NB620_612.out;have hnc78:=NB612_620.out;have hcz79_0:w76.cell? ⟨gb620,0,none⟩ = some (.int .i64 0):=(blk_cell BK620.out 0).trans rfl;have hcz79_1:w76.cell? ⟨gb620,1,none⟩ = some (.bool false):=(blk_cell BK620.out 1).trans rfl;have hcz79_2:w76.cell? ⟨gb620,2,none⟩ = some (.int .i64 0):=(blk_cell BK620.out 2).trans rfl;have hfz79_0:=blk_frozen BK620.out 0;have hfz79_1:=blk_frozen BK620.out 1;have hfz79_2:=blk_frozen BK620.out 2) | ((with_reducible refine gate_callee (f:=30) rfl ?_);refine goesL_ (some 50) rfl rfl Tryz.func30 (by kernel_rfl) rfl #[.string t615] rfl q71_ ?_;(with_reducible refine (spec_ReadInsText.calls kj6 t615 t621 t622 t623 t624 _ A44.out).mono ?_);rintro e w80 ⟨rfl,hb⟩;refine ⟨_,rfl,?_⟩;have n0_:=Aside0.mk (blk_below (g:=gb606) (o:=.cells #[.int .i64 t603,.bool t604,.int .i64 t605] 30 (0,0)) q8_ hb);have n1_:=Aside0.mk (blk_below (g:=gb612) (o:=.cells #[.int .i64 t608,.bool t609,.int .i64 t610] 30 (0,0)) q9_ hb);have n2_:=Aside0.mk (blk_below (g:=gb620) (o:=.cells #[.int .i64 t616,.bool t617,.int .i64 t618] 30 (0,0)) q3_ hb);have n3_:=Aside0.mk (below_step q34_ hb);clear BK606;clear BK612;clear BK620;clear HB;have BK606:=n0_;have BK612:=n1_;have BK620:=n2_;have HB:=n3_;clear n0_ n1_ n2_ n3_;(try clear hb)) | ((with_reducible refine gate_dst (N:=10) rfl ?_);refine box_event ?hg (N:=10) ?hd (cs:=#[.int .i64 0,.bool false,.int .i64 0]) (t:=30) ?hr ?_;(case hd => rfl);(case hg => rfl);(case hr => exact q139_);intro gb625 hg w81 hbox hb;have n0_:=Aside0.mk (blk_below (g:=gb606) (o:=.cells #[.int .i64 t603,.bool t604,.int .i64 t605] 30 (0,0)) q87_ hb);have n1_:=Aside0.mk (blk_below (g:=gb612) (o:=.cells #[.int .i64 t608,.bool t609,.int .i64 t610] 30 (0,0)) q88_ hb);have n2_:=Aside0.mk (blk_below (g:=gb620) (o:=.cells #[.int .i64 t616,.bool t617,.int .i64 t618] 30 (0,0)) q89_ hb);have n3_:=Aside0.mk (below_step q34_ hb);have n4_:=Aside0.mk (hbox);have n5_:=Aside0.mk ((q13_:w.heap.size ≤ gb625));have n6_:=Aside0.mk ((q13_:w.heap.size ≤ gb625));have n7_:=Aside0.mk ((q21_:gb606 ≠ gb625));have n8_:=Aside0.mk ((q22_:gb625 ≠ gb606));have n9_:=Aside0.mk ((q23_:gb612 ≠ gb625));have n10_:=Aside0.mk ((q24_:gb625 ≠ gb612));have n11_:=Aside0.mk ((q25_:gb620 ≠ gb625));have n12_:=Aside0.mk ((q26_:gb625 ≠ gb620));clear BK606;clear BK612;clear BK620;clear HB;have BK606:=n0_;have BK612:=n1_;have BK620:=n2_;have HB:=n3_;have BK625:=n4_;have GW625:=n5_;have GE625:=n6_;have NB606_625:=n7_;have NB625_606:=n8_;have NB612_625:=n9_;have NB625_612:=n10_;have NB620_625:=n11_;have NB625_620:=n12_;clear n0_ n1_ n2_ n3_ n4_ n5_ n6_ n7_ n8_ n9_ n10_ n11_ n12_;clear hb hbox hg;have hnb82:=NB625_606.out;have hnc82:=NB606_625.out;have hnb83:=NB625_612.out;have hnc83:=NB612_625.out;have hnb84:=NB625_620.out;have hnc84:=NB620_625.out;have hcz85_0:w81.cell? ⟨gb625,0,none⟩ = some (.int .i64 0):=(blk_cell BK625.out 0).trans rfl;have hcz85_1:w81.cell? ⟨gb625,1,none⟩ = some (.bool false):=(blk_cell BK625.out 1).trans rfl;have hcz85_2:w81.cell? ⟨gb625,2,none⟩ = some (.int .i64 0):=(blk_cell BK625.out 2).trans rfl;have hfz85_0:=blk_frozen BK625.out 0;have hfz85_1:=blk_frozen BK625.out 1;have hfz85_2:=blk_frozen BK625.out 2))
  go_ret
  exact ⟨q74_,q14_⟩
/-- THE ONE PURE STATEMENT of laws_FnInsTexts: yours. -/
def laws_FnInsTexts.Pure:Prop:=∀ (l0:List Int),l0.length ≤ maxLen → l0.length * 1 ≤ 140737488351232 → (∀ x ∈ l0,(Lit.int .u8 x).wf = true) → ∃ k,laws_FnInsTexts.f k l0 = some true
theorem laws_FnInsTexts.walk (P:laws_FnInsTexts.Pure) (a0:Option Addr) (len0 cap0:Nat) (z0:List Int) (w:World) (w0:(a0 = none ∧ len0 = 0 ∧ cap0 = 0 ∧ z0 = []) ∨ ∃ x,a0 = some x ∧ len0 ≤ cap0 ∧ cap0 ≤ maxLen ∧ z0.length = cap0 ∧ (∀ i,i < z0.length → w.cell? (x.add i) = some (.int .u8 (z0.getD i 0))) ∧ ∀ n ∈ z0,(Lit.int .u8 n).wf = true) (y0:len0 * 1 ≤ 140737488351232) (hG:Go.Proofs.YtodlnnoekccmmaaGreatDoor.LibW.GL w) :
  Calls Tryz.prog 6 #[.slice a0 len0 cap0] w fun e w' => e = .returned (.bool true) ∧ Below w.heap.size w w':=by
 obtain ⟨l0,rfl,hr0,hm0,hw0,hc0⟩:=ReadsInt.ofRowC w0
 obtain ⟨k,h⟩:=P l0 hm0 y0 hw0
 refine (laws_FnInsTexts.calls k _ _ l0 true w (Kd.C_of_reads (d:=(0:Int)) (h1:=fun _ => rfl) hr0) hc0 h).mono ?_
 rintro e w' ⟨rfl,hd⟩
 exact ⟨rfl,hd⟩
end Go.Proofs.YtodlnnoekccmmaaGreatDoor.QFnInsTexts
