/- The machine's side of a law,written by a program of this session for this claim. -/
import Derived.Test.YtodlnnoekccmmaaGreatDoorKQq
import Derived.Test.YtodlnnoekccmmaaGreatDoorKQFnMarksx0
import Derived.Test.YtodlnnoekccmmaaGreatDoorKQFnMarksx1
import Derived.Test.YtodlnnoekccmmaaGreatDoorKQFnMarksx6
import Derived.Test.YtodlnnoekccmmaaGreatDoorKQFnMarksx13
import Derived.Test.YtodlnnoekccmmaaGreatDoorKQFnMarksx15
import Derived.Test.YtodlnnoekccmmaaGreatDoorKQFnMarksx18
namespace Go.Proofs.YtodlnnoekccmmaaGreatDoor.QFnMarks
open Go.Proofs.YtodlnnoekccmmaaGreatDoor.Qq
open Go.RowKit Go.Proofs.YtodlnnoekccmmaaGreatDoor.LibX Go.Proofs.YtodlnnoekccmmaaGreatDoor.LibE Go.Proofs.YtodlnnoekccmmaaGreatDoor.LibCB Go.Proofs.YtodlnnoekccmmaaGreatDoorW.PrintWords Go.Proofs.YtodlnnoekccmmaaGreatDoorW.PrintLast Go.Proofs.YtodlnnoekccmmaaGreatDoorW.PrintMore
attribute [local go_sem] max2_int min2_int max_two min_two max_three min_three max_four min_four   -- for this text's walks alone
set_option maxHeartbeats 8000000
set_option maxRecDepth 100000
set_option linter.unusedVariables false
set_option linter.unusedSimpArgs false
mutual
def laws_FnMarks.j0:Nat → ByteArray → List Int → ByteArray → Bool → Option (Bool)
 | 0,_,_,_,_ => none
 | k + 1,x3,x4,x5,x30 => if x30 = true then ((spec_MarksOf.f k x3 x4).bind fun t680 => (some (x5.toList == t680.toList))) else (laws_FnMarks.l0 k x3 x5 0)
def laws_FnMarks.l0:Nat → ByteArray → ByteArray → Int → Option (Bool)
 | 0,_,_,_ => none
 | k + 1,x3,x5,x6 => if x6 < (x5.size:Int) then (if 0 ≤ x6 then (if (bt x5 x6) = 99 then ((impl_ReadIns.f k x3 x6).bind fun bt681 => (if bt681.2.2.2 = 0 then (laws_FnMarks.j2 k x3 x5 x6 bt681.2.2.2 true) else (laws_FnMarks.j2 k x3 x5 x6 bt681.2.2.2 ((wrap64 (Int.tdiv x6 256)) != (wrap64 (Int.tdiv (wrap64 ((wrap64 (x6 + bt681.2.2.2)) - 1)) 256)))))) else (laws_FnMarks.l0 k x3 x5 (wrap64 (x6 + 1)))) else (none)) else ((impl_MarksOf.f k x3 ([]:List Int)).bind fun t686 => (laws_FnMarks.l2 k x3 x5 t686 0))
def laws_FnMarks.j2:Nat → ByteArray → ByteArray → Int → Int → Bool → Option (Bool)
 | 0,_,_,_,_,_ => none
 | k + 1,x3,x5,x6,x8,x63 => if x63 = true then (some false) else (laws_FnMarks.l1 k x3 x5 x6 x8 1)
def laws_FnMarks.l1:Nat → ByteArray → ByteArray → Int → Int → Int → Option (Bool)
 | 0,_,_,_,_,_ => none
 | k + 1,x3,x5,x6,x8,x9 => if x9 < x8 then (if 0 ≤ (wrap64 (x6 + x9)) then (if (wrap64 (x6 + x9)) < (x5.size:Int) then (if (bt x5 (wrap64 (x6 + x9))) = 46 then (laws_FnMarks.l1 k x3 x5 x6 x8 (wrap64 (x9 + 1))) else (some false)) else (none)) else (none)) else (if (wrap64 (x6 + x8)) < (x5.size:Int) then (if 0 ≤ (wrap64 (x6 + x8)) then (if (bt x5 (wrap64 (x6 + x8))) = 46 then (some false) else (laws_FnMarks.l0 k x3 x5 (wrap64 (x6 + 1)))) else (none)) else (laws_FnMarks.l0 k x3 x5 (wrap64 (x6 + 1))))
def laws_FnMarks.l2:Nat → ByteArray → ByteArray → ByteArray → Int → Option (Bool)
 | 0,_,_,_,_ => none
 | k + 1,x3,x5,x10,x11 => if x11 < (x10.size:Int) then (if 0 ≤ x11 then (if (bt x10 x11) = 100 then (laws_FnMarks.l2 k x3 x5 x10 (wrap64 (x11 + 1))) else (some false)) else (none)) else (if (x5.size:Int) = (x3.size:Int) then (some ((x10.size:Int) == (x3.size:Int))) else (some false))
end
def laws_FnMarks.f (k:Nat) (l0:List Int):Option (Bool):=(laws_big.f l0).bind fun t673 => (if t673 = true then (some true) else ((spec_DrawMarksOf.f k l0).bind fun bt674 => ((impl_MarksOf.f k bt674.1 bt674.2).bind fun t678 => ((spec_MarksOf.f k bt674.1 bt674.2).bind fun t679 => (if t678.toList = t679.toList then (laws_FnMarks.j0 k bt674.1 bt674.2 t678 (t678.toList == ([]:List UInt8))) else (laws_FnMarks.j0 k bt674.1 bt674.2 t678 true))))))
theorem laws_FnMarks.calls (k:Nat) (A0:Option Addr) (c0:Nat) (l0:List Int) (r:Bool) (w:World) (hr0:Kd.C (Kd.int .u8) w A0 l0.length l0) (hc0:l0.length ≤ c0) (h:laws_FnMarks.f k l0 = some r) (hG:Go.Proofs.YtodlnnoekccmmaaGreatDoor.LibW.GL w:=by first | exact hG | exact hG.below q5_ | exact hG.drewN _) :
  Calls Tryz.prog 8 #[.slice A0 l0.length c0] w fun e w' => e = .returned (.bool r) ∧ Below w.heap.size w w':=by
 have hu30:=Tryz.underlying30
 have HR0:=Aside0.mk hr0
 have HC0:=Aside0.mk hc0
 clear hr0 hc0
 have HB:=Aside0.mk (Below.refl w.heap.size w)
 have H:=h;unfold laws_FnMarks.f at H
 clear h
 replace H:=Option.bind_eq_some_iff.mp H
 obtain ⟨t673,A20,H⟩:=H
 have A2:=Aside0.mk A20
 clear A20
 by_cases c3:t673 = true
 ·subst c3
  rewrite [if_pos rfl] at H
  obtain rfl:=Option.some.inj H
  go_enter Tryz.func8,Tryz.ntmps8
  go_wp2_with (first | ((with_reducible refine gate_callee (f:=11) rfl ?_);refine goesL_ (some 13) rfl rfl Tryz.func11 (by kernel_rfl) rfl #[.slice A0 l0.length c0] rfl q68_ ?_;(with_reducible refine (laws_big.calls _ _ l0 true _ ?side1 ?side2 A2.out).mono ?_);(case side1 => exact q151_);(case side2 => exact HC0.out);rintro e w' ⟨rfl,⟨nd,rfl⟩⟩;refine ⟨_,rfl,?_⟩))
  go_ret
  exact ⟨q75_,q70_⟩
 replace c3:=Bool.eq_false_iff.mpr c3
 subst c3
 rewrite [if_neg (show ¬ (false = true) by decide)] at H
 replace H:=Option.bind_eq_some_iff.mp H
 obtain ⟨⟨t674,t675⟩,A40,H⟩:=H
 try dsimp -simprocs -eta only at H
 have A4:=Aside0.mk A40
 clear A40
 replace H:=Option.bind_eq_some_iff.mp H
 obtain ⟨t678,A50,H⟩:=H
 have A5:=Aside0.mk A50
 clear A50
 have HC6:=Aside0.mk H
 clear H
 go_enter Tryz.func8,Tryz.ntmps8
 go_upto_region 5 with (first | ((with_reducible refine gate_callee (f:=11) rfl ?_);refine goesL_ (some 13) rfl rfl Tryz.func11 (by kernel_rfl) rfl #[.slice A0 l0.length c0] rfl q68_ ?_;(with_reducible refine (laws_big.calls _ _ l0 false _ ?side1 ?side2 A2.out).mono ?_);(case side1 => exact q151_);(case side2 => exact HC0.out);rintro e w' ⟨rfl,⟨nd,rfl⟩⟩;refine ⟨_,rfl,?_⟩) | ((with_reducible refine gate_callee (f:=35) rfl ?_);refine goesL_ (some 16) rfl rfl Tryz.func35 (by kernel_rfl) rfl #[.slice A0 l0.length c0] rfl q68_ ?_;(with_reducible refine (spec_DrawMarksOf.calls k _ _ l0 t674 t675 _ ?side1 ?side2 A4.out).mono ?_);(case side1 => exact q151_);(case side2 => exact HC0.out);rintro e w7 ⟨v676,rfl,ho0,hb⟩;refine ⟨_,rfl,?_⟩;have n0_:=Aside0.mk (Kd.R_lower ho0 (below_size q70_));have n1_:=Aside0.mk (below_step q70_ hb);clear HB;have HO677:=n0_;have HB:=n1_;clear n0_ n1_;(try clear hb);(try clear ho0);obtain ⟨Ao8,co8,eo8⟩:=Kd.R_slice HO677.out;subst eo8) | ((with_reducible refine gate_callee (f:=33) rfl ?_);refine goesL_ (some 21) rfl rfl Tryz.func33 (by kernel_rfl) rfl #[.string t674,.slice Ao8 t675.length co8] rfl q68_ ?_;(with_reducible refine (impl_MarksOf.calls k t674 _ _ t675 t678 _ ?side1 ?side2 A5.out).mono ?_);(case side1 => exact q149_);(case side2 => exact (Kd.R_reads' HO677.out).2.1);rintro e w9 ⟨rfl,hb⟩;refine ⟨_,rfl,?_⟩;have n0_:=Aside0.mk (Kd.R_below q109_ hb);have n1_:=Aside0.mk (below_step q70_ hb);clear HO677;clear HB;have HO677:=n0_;have HB:=n1_;clear n0_ n1_;(try clear hb)))
 (try simp only [Act.put,List.setIfInBounds_toArray,List.set_cons_zero,List.set_cons_succ])
 go_cut [30] (fun v30 wc => ∃ (kq:Nat) (x30_5:Bool),v30 = .bool x30_5 ∧ Aside0 (laws_FnMarks.j0 kq t674 t675 t678 x30_5 = some r) ∧ Aside0 (kq ≤ k) ∧ Aside0 (Kd.R (Kd.int .i64) 2 wc w.heap.size (fun _ => True) (.slice Ao8 t675.length co8) t675) ∧ Aside0 (Below w.heap.size w wc))
 case first =>
  have H:=HC6.out
  clear HC6
  replace H:=Option.bind_eq_some_iff.mp H
  obtain ⟨t679,A100,H⟩:=H
  have A10:=Aside0.mk A100
  clear A100
  by_cases c11:t678.toList = t679.toList
  ·rw [if_pos c11] at H
   have c11b0:(t678.toList == t679.toList) = true:=beq_iff_eq.mpr c11
   have c11b1:(t678.toList != t679.toList) = false:=bne_eq_false_iff_eq.mpr c11
   clear c11
   (first | rw [c11b0] | (simp only [i64_w,i32_w];rw [c11b0]) | skip)
   have H':=Aside0.mk H
   clear H
   go_wp2_with (first | ((with_reducible refine gate_callee (f:=31) rfl ?_);refine goesL_ (some 25) rfl rfl Tryz.func31 (by kernel_rfl) rfl #[.string t674,.slice Ao8 t675.length co8] rfl q68_ ?_;(with_reducible refine (spec_MarksOf.calls k t674 _ _ t675 t679 _ ?side1 ?side2 A10.out).mono ?_);(case side1 => exact q149_);(case side2 => exact (Kd.R_reads' HO677.out).2.1);rintro e w12 ⟨rfl,hb⟩;refine ⟨_,rfl,?_⟩;have n0_:=Aside0.mk (Kd.R_below q109_ hb);have n1_:=Aside0.mk (below_step q70_ hb);clear HO677;clear HB;have HO677:=n0_;have HB:=n1_;clear n0_ n1_;(try clear hb)))
   go_meet
   case rel => exact ⟨_,((t678.toList == ([]:List UInt8))),q94_,H',⟨q132_⟩,⟨q109_⟩,⟨q70_⟩⟩
  rw [if_neg c11] at H
  have c11b0:(t678.toList == t679.toList) = false:=beq_eq_false_iff_ne.mpr c11
  have c11b1:(t678.toList != t679.toList) = true:=bne_iff_ne.mpr c11
  (first | rw [c11b0] | (simp only [i64_w,i32_w];rw [c11b0]) | skip)
  have H':=Aside0.mk H
  clear H
  go_wp2_with (first | ((with_reducible refine gate_callee (f:=31) rfl ?_);refine goesL_ (some 25) rfl rfl Tryz.func31 (by kernel_rfl) rfl #[.string t674,.slice Ao8 t675.length co8] rfl q68_ ?_;(with_reducible refine (spec_MarksOf.calls k t674 _ _ t675 t679 _ ?side1 ?side2 A10.out).mono ?_);(case side1 => exact q149_);(case side2 => exact (Kd.R_reads' HO677.out).2.1);rintro e w13 ⟨rfl,hb⟩;refine ⟨_,rfl,?_⟩;have n0_:=Aside0.mk (Kd.R_below q109_ hb);have n1_:=Aside0.mk (below_step q70_ hb);clear HO677;clear HB;have HO677:=n0_;have HB:=n1_;clear n0_ n1_;(try clear hb)))
  go_meet
  case rel => exact ⟨_,(true),q94_,H',⟨q132_⟩,⟨q109_⟩,⟨q70_⟩⟩
 clear HC6
 try clear c1
 try clear p2
 try clear c3
 try clear p6
 try clear c8
 try clear c11
 try clear c11b0
 try clear c11b1
 obtain ⟨kq,x30_5,rfl,HA,HJ5,HO_4,HB⟩:=hcut
 cases kq with
 | zero => exact absurd HA.out (by simp [laws_FnMarks.j0])
 | succ kj5 =>
  have H:=HA.out
  clear HA
  simp only [laws_FnMarks.j0] at H
  by_cases c14:x30_5 = true
  ·subst c14
   rewrite [if_pos rfl] at H
   replace H:=Option.bind_eq_some_iff.mp H
   obtain ⟨t680,A150,H⟩:=H
   have A15:=Aside0.mk A150
   clear A150
   obtain rfl:=Option.some.inj H
   go_wp2_with (first | ((with_reducible refine gate_callee (f:=31) rfl ?_);refine goesL_ (some 34) rfl rfl Tryz.func31 (by kernel_rfl) rfl #[.string t674,.slice Ao8 t675.length co8] rfl q68_ ?_;(with_reducible refine (spec_MarksOf.calls kj5 t674 _ _ t675 t680 _ ?side1 ?side2 A15.out).mono ?_);(case side1 => repeat (first | exact (Kd.R_reads' HO_4.out).2.2 | (with_reducible refine Kd.C_alloc ?_ _) | (with_reducible refine Kd.C_drewN ?_ _) | (with_reducible refine Kd.C_drew ?_)));(case side2 => exact (Kd.R_reads' HO_4.out).2.1);rintro e w16 ⟨rfl,hb⟩;refine ⟨_,rfl,?_⟩;have n0_:=Aside0.mk (Kd.R_below q111_ hb);have n1_:=Aside0.mk (below_step q70_ hb);clear HO_4;clear HB;have HO_4:=n0_;have HB:=n1_;clear n0_ n1_;(try clear hb)))
   go_ret
   exact ⟨q75_,q70_⟩
  replace c14:=Bool.eq_false_iff.mpr c14
  subst c14
  rewrite [if_neg (show ¬ (false = true) by decide)] at H
  have H':=Aside0.mk H
  clear H
  go_wp2
  go_loopg [6] kj5 (fun kq v6 w' => ∃ (x6_2:Int),v6 = .int .i64 x6_2 ∧ Aside0 (laws_FnMarks.l0 kq t674 t678 x6_2 = some r) ∧ Aside0 (kq ≤ kj5) ∧ Aside0 (Below w.heap.size w w'))
  case atStart => exact ⟨(0),q94_,H',⟨Nat.le_refl _⟩,⟨q70_⟩⟩
  clear H'
  try clear c1
  try clear p2 p2
  try clear c3
  try clear p6 p6
  try clear c8
  try clear c11
  try clear c11b0
  try clear c11b1
  try clear c14
  obtain ⟨x6_2,rfl,HA,HK2,HB⟩:=hrel
  cases gk with
  | zero => exact absurd HA.out (by simp [laws_FnMarks.l0])
  | succ k2 =>
   have H:=HA.out
   clear HA
   simp only [laws_FnMarks.l0] at H
   by_cases c17:x6_2 < (t678.size:Int)
   ·rw [if_pos c17] at H
    have c17b0:=decide_eq_true c17
    clear c17
    by_cases c18:0 ≤ x6_2
    rotate_left
    ·rw [if_neg c18] at H
     exact absurd H (by simp)
    rw [if_pos c18] at H
    have c18b0:=decide_eq_true c18
    clear c18
    by_cases c20:(bt t678 x6_2) = 99
    ·rw [if_pos c20] at H
     have c20b0:((bt t678 x6_2) == 99) = true:=beq_iff_eq.mpr c20
     have c20b1:((bt t678 x6_2) != 99) = false:=bne_eq_false_iff_eq.mpr c20
     clear c20
     replace H:=Option.bind_eq_some_iff.mp H
     obtain ⟨⟨t681,t682,t683,t684⟩,A210,H⟩:=H
     try dsimp -simprocs -eta only at H
     have A21:=Aside0.mk A210
     clear A210
     have HC22:=Aside0.mk H
     clear H
     have p19:0 ≤ (x6_2:Int):=of_decide_eq_true q119_
     have q19:x6_2 < (t678.size:Int):=of_decide_eq_true q119_
     have hx19:=bt_at t678 x6_2
     replace p19:=eq_true p19
     replace q19:=eq_true q19
     go_upto_region 12 with (first | ((with_reducible refine gate_callee (f:=22) rfl ?_);refine goesL_ (some 49) rfl rfl Tryz.func22 (by kernel_rfl) rfl #[.string t674,.int .i64 x6_2] rfl q68_ ?_;(with_reducible refine (impl_ReadIns.calls k2 t674 x6_2 t681 t682 t683 t684 _ A21.out).mono ?_);rintro e w23 ⟨rfl,hb⟩;refine ⟨_,rfl,?_⟩;replace HB:=Aside0.mk (below_step q70_ hb);(try clear hb)) | ((with_reducible refine gate_dst (N:=7) rfl ?_);(try (refine gate_guard (by rfl) ?_;dsimp only));refine box_event ?hg (N:=7) ?hd (cs:=#[.int .i64 0,.bool false,.int .i64 0]) (t:=30) ?hr ?_;(case hd => rfl);(case hg => rfl);(case hr => exact q153_);intro gb685 hg w24 hbox hb;have n0_:=Aside0.mk (below_step q70_ hb);have n1_:=Aside0.mk (hbox);have n2_:=Aside0.mk ((q46_:w.heap.size ≤ gb685));have n3_:=Aside0.mk ((q46_:w.heap.size ≤ gb685));clear HB;have HB:=n0_;have BK685:=n1_;have GW685:=n2_;have GE685:=n3_;clear n0_ n1_ n2_ n3_;clear hb hbox hg;have hcz25_0:w24.cell? ⟨gb685,0,none⟩ = some (.int .i64 0):=(blk_cell BK685.out 0).trans rfl;have hcz25_1:w24.cell? ⟨gb685,1,none⟩ = some (.bool false):=(blk_cell BK685.out 1).trans rfl;have hcz25_2:w24.cell? ⟨gb685,2,none⟩ = some (.int .i64 0):=(blk_cell BK685.out 2).trans rfl;have hfz25_0:=blk_frozen BK685.out 0;have hfz25_1:=blk_frozen BK685.out 1;have hfz25_2:=blk_frozen BK685.out 2))
     (try simp only [Act.put,List.setIfInBounds_toArray,List.set_cons_zero,List.set_cons_succ])
     go_cut [63] (fun v63 wc => ∃ (kq:Nat) (x63_21:Bool),v63 = .bool x63_21 ∧ Aside0 (laws_FnMarks.j2 kq t674 t678 x6_2 t684 x63_21 = some r) ∧ Aside0 (kq ≤ k2) ∧ Aside0 (wc.heap[gb685]? = some (.cells #[.int .i64 t681,.bool t682,.int .i64 t683] 30 (0,0))) ∧ Aside0 (Below w.heap.size w wc))
     case first =>
      have H:=HC22.out
      clear HC22
      by_cases c26:t684 = 0
      ·rw [if_pos c26] at H
       have c26b0:(t684 == 0) = true:=beq_iff_eq.mpr c26
       have c26b1:(t684 != 0) = false:=bne_eq_false_iff_eq.mpr c26
       clear c26
       (first | rw [c26b0] | (simp only [i64_w,i32_w];rw [c26b0]) | skip)
       have H':=Aside0.mk H
       clear H
       go_wp2
       go_meet
       case rel => exact ⟨_,(true),q94_,H',⟨by have:=HJ5.out;have:=HK2.out;first | omega | exact Nat.le_refl _⟩,⟨q1_⟩,⟨q58_⟩⟩
      rw [if_neg c26] at H
      have c26b0:(t684 == 0) = false:=beq_eq_false_iff_ne.mpr c26
      have c26b1:(t684 != 0) = true:=bne_iff_ne.mpr c26
      (first | rw [c26b0] | (simp only [i64_w,i32_w];rw [c26b0]) | skip)
      have H':=Aside0.mk H
      clear H
      go_wp2
      go_meet
      case rel => exact ⟨_,(((wrap64 (Int.tdiv x6_2 256)) != (wrap64 (Int.tdiv (wrap64 ((wrap64 (x6_2 + t684)) - 1)) 256)))),q94_,H',⟨by have:=HJ5.out;have:=HK2.out;first | omega | exact Nat.le_refl _⟩,⟨q1_⟩,⟨q58_⟩⟩
     clear HC22
     try clear c1
     try clear p1
     try clear q1
     try clear hx1
     try clear c2
     try clear p2 p2
     try clear c3
     try clear p6 p6
     try clear c8
     try clear c11
     try clear c11b0
     try clear c11b1
     try clear c14
     try clear c17
     try clear c17b0
     try clear c18
     try clear c18b0
     try clear p19 p19
     try clear q19 q19
     try clear hx19
     try clear c20
     try clear c20b0
     try clear c20b1
     try clear c22
     try clear c26
     try clear c26b0
     try clear c26b1
     try clear hcz25_0 hcz25_1 hcz25_2
     try clear hfz25_0 hfz25_1 hfz25_2
     obtain ⟨kq,x63_21,rfl,HA,HJ21,BK685,HB⟩:=hcut
     cases kq with
     | zero => exact absurd HA.out (by simp [laws_FnMarks.j2])
     | succ kj21 =>
      have H:=HA.out
      clear HA
      simp only [laws_FnMarks.j2] at H
      by_cases c27:x63_21 = true
      ·subst c27
       rewrite [if_pos rfl] at H
       obtain rfl:=Option.some.inj H
       go_wp2
       go_ret
       exact ⟨q75_,q58_⟩
      replace c27:=Bool.eq_false_iff.mpr c27
      subst c27
      rewrite [if_neg (show ¬ (false = true) by decide)] at H
      have H':=Aside0.mk H
      clear H
      go_wp2
      go_loopg [9] kj21 (fun kq v9 w' => ∃ (x9_4:Int),v9 = .int .i64 x9_4 ∧ Aside0 (laws_FnMarks.l1 kq t674 t678 x6_2 t684 x9_4 = some r) ∧ Aside0 (kq ≤ kj21) ∧ Aside0 (w'.heap[gb685]? = some (.cells #[.int .i64 t681,.bool t682,.int .i64 t683] 30 (0,0))) ∧ Aside0 (Below w.heap.size w w'))
      case atStart => exact ⟨(1),q94_,H',⟨Nat.le_refl _⟩,⟨q91_⟩,⟨q58_⟩⟩
      clear H'
      try clear c1
      try clear p1 p1
      try clear q1 q1
      try clear hx1
      try clear c2
      try clear p2 p2
      try clear c3
      try clear p6 p6
      try clear c8
      try clear c11
      try clear c11b0
      try clear c11b1
      try clear c14
      try clear c17
      try clear c17b0
      try clear c18
      try clear c18b0
      try clear p19 p19
      try clear q19 q19
      try clear hx19
      try clear c20
      try clear c20b0
      try clear c20b1
      try clear c22
      try clear c26
      try clear c26b0
      try clear c26b1
      try clear c27
      try clear hcz25_0 hcz25_1 hcz25_2
      try clear hfz25_0 hfz25_1 hfz25_2
      obtain ⟨x9_4,rfl,HA,HK4,BK685,HB⟩:=hrel
      cases gk with
      | zero => exact absurd HA.out (by simp [laws_FnMarks.l1])
      | succ k4 =>
       have H:=HA.out
       clear HA
       simp only [laws_FnMarks.l1] at H
       by_cases c28:x9_4 < t684
       ·rw [if_pos c28] at H
        have c28b0:=decide_eq_true c28
        clear c28
        obtain ⟨ji29,hji29⟩:∃ j_:Int,(wrap64 (x6_2 + x9_4)) = j_:=⟨_,rfl⟩
        (first | rewrite [hji29] at H | simp only [hji29] at H)
        have hji29w:(IntKind.i64.wrap (x6_2 + x9_4)) = ji29:=(i64_w _).trans hji29
        by_cases c30:0 ≤ (ji29)
        rotate_left
        ·rw [if_neg c30] at H
         exact absurd H (by simp)
        rw [if_pos c30] at H
        have c30b0:=decide_eq_true c30
        clear c30
        by_cases c31:(ji29) < (t678.size:Int)
        rotate_left
        ·rw [if_neg c31] at H
         exact absurd H (by simp)
        rw [if_pos c31] at H
        have c31b0:=decide_eq_true c31
        clear c31
        by_cases c33:(bt t678 (ji29)) = 46
        ·rw [if_pos c33] at H
         have c33b0:((bt t678 (ji29)) == 46) = true:=beq_iff_eq.mpr c33
         have c33b1:((bt t678 (ji29)) != 46) = false:=bne_eq_false_iff_eq.mpr c33
         clear c33
         have H':=Aside0.mk H
         clear H
         have p32:0 ≤ ((ji29):Int):=of_decide_eq_true q119_
         have q32:(ji29) < (t678.size:Int):=of_decide_eq_true q119_
         have hx32:=bt_at t678 (ji29)
         replace p32:=eq_true p32
         replace q32:=eq_true q32
         go_wp2
         go_roundg k4
         case measure => have:=HJ5.out;have:=HK2.out;have:=HJ21.out;have:=HK4.out;omega
         case rel => exact ⟨(wrap64 (x9_4 + 1)),q94_,(by first | with_reducible exact H' | (have H2_:=H';simp only [← hji29] at H2_ ⊢;with_reducible exact H2_) | exact H'),⟨q116_⟩,⟨q91_⟩,⟨q58_⟩⟩
        rw [if_neg c33] at H
        have c33b0:((bt t678 (ji29)) == 46) = false:=beq_eq_false_iff_ne.mpr c33
        have c33b1:((bt t678 (ji29)) != 46) = true:=bne_iff_ne.mpr c33
        obtain rfl:=Option.some.inj H
        have p32:0 ≤ ((ji29):Int):=of_decide_eq_true q119_
        have q32:(ji29) < (t678.size:Int):=of_decide_eq_true q119_
        have hx32:=bt_at t678 (ji29)
        replace p32:=eq_true p32
        replace q32:=eq_true q32
        go_wp2
        go_ret
        exact ⟨q28_,q58_⟩
       rw [if_neg c28] at H
       have c28b0:=decide_eq_false c28
       clear c28
       by_cases c34:(wrap64 (x6_2 + t684)) < (t678.size:Int)
       ·rw [if_pos c34] at H
        have c34b0:=decide_eq_true c34
        clear c34
        obtain ⟨ji35,hji35⟩:∃ j_:Int,(wrap64 (x6_2 + t684)) = j_:=⟨_,rfl⟩
        (first | rewrite [hji35] at H | simp only [hji35] at H)
        (try rw [hji35] at c34b0)
        have hji35w:(IntKind.i64.wrap (x6_2 + t684)) = ji35:=(i64_w _).trans hji35
        by_cases c36:0 ≤ (ji35)
        rotate_left
        ·rw [if_neg c36] at H
         exact absurd H (by simp)
        rw [if_pos c36] at H
        have c36b0:=decide_eq_true c36
        clear c36
        by_cases c38:(bt t678 (ji35)) = 46
        ·rw [if_pos c38] at H
         have c38b0:((bt t678 (ji35)) == 46) = true:=beq_iff_eq.mpr c38
         have c38b1:((bt t678 (ji35)) != 46) = false:=bne_eq_false_iff_eq.mpr c38
         clear c38
         obtain rfl:=Option.some.inj H
         have p37:0 ≤ ((ji35):Int):=of_decide_eq_true q119_
         have q37:(ji35) < (t678.size:Int):=of_decide_eq_true q119_
         have hx37:=bt_at t678 (ji35)
         replace p37:=eq_true p37
         replace q37:=eq_true q37
         go_wp2
         go_ret
         exact ⟨by first | rfl | (simp [errW_none,errW_some] <;> rfl) | (simp only [← hji35];first | rfl | (simp [errW_none,errW_some] <;> rfl)) | (simp [*,errW_none,errW_some] <;> rfl) | (exfalso;simp_all;done),q58_⟩
        rw [if_neg c38] at H
        have c38b0:((bt t678 (ji35)) == 46) = false:=beq_eq_false_iff_ne.mpr c38
        have c38b1:((bt t678 (ji35)) != 46) = true:=bne_iff_ne.mpr c38
        have H':=Aside0.mk H
        clear H
        have p37:0 ≤ ((ji35):Int):=of_decide_eq_true q119_
        have q37:(ji35) < (t678.size:Int):=of_decide_eq_true q119_
        have hx37:=bt_at t678 (ji35)
        replace p37:=eq_true p37
        replace q37:=eq_true q37
        go_wp2
        go_roundg k4
        case measure => have:=HJ5.out;have:=HK2.out;have:=HJ21.out;have:=HK4.out;omega
        case rel => exact ⟨(wrap64 (x6_2 + 1)),q94_,(by first | with_reducible exact H' | (have H2_:=H';simp only [← hji35] at H2_ ⊢;with_reducible exact H2_) | exact H'),⟨q116_⟩,⟨q58_⟩⟩
       rw [if_neg c34] at H
       have c34b0:=decide_eq_false c34
       clear c34
       have H':=Aside0.mk H
       clear H
       go_wp2
       go_roundg k4
       case measure => have:=HJ5.out;have:=HK2.out;have:=HJ21.out;have:=HK4.out;omega
       case rel => exact ⟨(wrap64 (x6_2 + 1)),q94_,H',⟨q116_⟩,⟨q58_⟩⟩
    rw [if_neg c20] at H
    have c20b0:((bt t678 x6_2) == 99) = false:=beq_eq_false_iff_ne.mpr c20
    have c20b1:((bt t678 x6_2) != 99) = true:=bne_iff_ne.mpr c20
    have H':=Aside0.mk H
    clear H
    have p19:0 ≤ (x6_2:Int):=of_decide_eq_true q119_
    have q19:x6_2 < (t678.size:Int):=of_decide_eq_true q119_
    have hx19:=bt_at t678 x6_2
    replace p19:=eq_true p19
    replace q19:=eq_true q19
    go_wp2
    go_roundg k2
    case measure => have:=HJ5.out;have:=HK2.out;omega
    case rel => exact ⟨(wrap64 (x6_2 + 1)),q94_,H',⟨by have:=HJ5.out;have:=HK2.out;omega⟩,⟨q70_⟩⟩
   rw [if_neg c17] at H
   have c17b0:=decide_eq_false c17
   clear c17
   replace H:=Option.bind_eq_some_iff.mp H
   obtain ⟨t686,A390,H⟩:=H
   have A39:=Aside0.mk A390
   clear A390
   have H':=Aside0.mk H
   clear H
   go_wp2_with (first | ((with_reducible refine gate_callee (f:=33) rfl ?_);refine goesL_ (some 90) rfl rfl Tryz.func33 (by kernel_rfl) rfl #[.string t674,.slice none 0 0] rfl q68_ ?_;(refine (impl_MarksOf.calls k2 t674 _ _ ([]:List Int) t686 _ ?side1 ?side2 A39.out).mono ?_);(case side1 => exact Kd.C_nil _ _);(case side2 => exact Nat.le_refl _);rintro e w40 ⟨rfl,hb⟩;refine ⟨_,rfl,?_⟩;replace HB:=Aside0.mk (below_step q70_ hb);(try clear hb)))
   go_loopg [11] k2 (fun kq v11 w' => ∃ (x11_3:Int),v11 = .int .i64 x11_3 ∧ Aside0 (laws_FnMarks.l2 kq t674 t678 t686 x11_3 = some r) ∧ Aside0 (kq ≤ k2) ∧ Aside0 (Below w.heap.size w w'))
   case atStart => exact ⟨(0),q94_,H',⟨Nat.le_refl _⟩,⟨q70_⟩⟩
   clear H'
   try clear c1
   try clear p1 p1
   try clear q1 q1
   try clear hx1
   try clear c2
   try clear p2 p2
   try clear c3
   try clear p3
   try clear q3
   try clear hx3
   try clear p6 p6
   try clear c8
   try clear c11
   try clear c11b0
   try clear c11b1
   try clear c14
   try clear c17
   try clear c17b0
   try clear c18
   try clear c18b0
   try clear p19 p19
   try clear q19 q19
   try clear hx19
   try clear c20
   try clear c20b0
   try clear c20b1
   try clear c22
   try clear c26
   try clear c26b0
   try clear c26b1
   try clear c27
   try clear c28
   try clear c28b0
   try clear c30
   try clear c30b0
   try clear c31
   try clear c31b0
   try clear p32 p32
   try clear q32 q32
   try clear hx32
   try clear c33
   try clear c33b0
   try clear c33b1
   try clear c34
   try clear c34b0
   try clear c35
   try clear c36
   try clear c36b0
   try clear p37 p37
   try clear q37 q37
   try clear hx37
   try clear c38
   try clear c38b0
   try clear c38b1
   try clear hcz25_0 hcz25_1 hcz25_2
   try clear hfz25_0 hfz25_1 hfz25_2
   obtain ⟨x11_3,rfl,HA,HK3,HB⟩:=hrel
   cases gk with
   | zero => exact absurd HA.out (by simp [laws_FnMarks.l2])
   | succ k3 =>
    have H:=HA.out
    clear HA
    simp only [laws_FnMarks.l2] at H
    by_cases c41:x11_3 < (t686.size:Int)
    ·rw [if_pos c41] at H
     have c41b0:=decide_eq_true c41
     clear c41
     by_cases c42:0 ≤ x11_3
     rotate_left
     ·rw [if_neg c42] at H
      exact absurd H (by simp)
     rw [if_pos c42] at H
     have c42b0:=decide_eq_true c42
     clear c42
     by_cases c44:(bt t686 x11_3) = 100
     ·rw [if_pos c44] at H
      have c44b0:((bt t686 x11_3) == 100) = true:=beq_iff_eq.mpr c44
      have c44b1:((bt t686 x11_3) != 100) = false:=bne_eq_false_iff_eq.mpr c44
      clear c44
      have H':=Aside0.mk H
      clear H
      have p43:0 ≤ (x11_3:Int):=of_decide_eq_true q119_
      have q43:x11_3 < (t686.size:Int):=of_decide_eq_true q119_
      have hx43:=bt_at t686 x11_3
      replace p43:=eq_true p43
      replace q43:=eq_true q43
      go_wp2
      go_roundg k3
      case measure => have:=HJ5.out;have:=HK2.out;have:=HK3.out;omega
      case rel => exact ⟨(wrap64 (x11_3 + 1)),q94_,H',⟨by have:=HJ5.out;have:=HK2.out;have:=HK3.out;omega⟩,⟨q70_⟩⟩
     rw [if_neg c44] at H
     have c44b0:((bt t686 x11_3) == 100) = false:=beq_eq_false_iff_ne.mpr c44
     have c44b1:((bt t686 x11_3) != 100) = true:=bne_iff_ne.mpr c44
     obtain rfl:=Option.some.inj H
     have p43:0 ≤ (x11_3:Int):=of_decide_eq_true q119_
     have q43:x11_3 < (t686.size:Int):=of_decide_eq_true q119_
     have hx43:=bt_at t686 x11_3
     replace p43:=eq_true p43
     replace q43:=eq_true q43
     go_wp2
     go_ret
     exact ⟨q75_,q70_⟩
    rw [if_neg c41] at H
    have c41b0:=decide_eq_false c41
    clear c41
    by_cases c45:(t678.size:Int) = (t674.size:Int)
    ·rw [if_pos c45] at H
     have c45b0:((t678.size:Int) == (t674.size:Int)) = true:=beq_iff_eq.mpr c45
     have c45b1:((t678.size:Int) != (t674.size:Int)) = false:=bne_eq_false_iff_eq.mpr c45
     have c45b2:(t678.size == t674.size) = true:=by first | simpa using c45 | (simp at c45 ⊢;omega)
     clear c45
     obtain rfl:=Option.some.inj H
     go_wp2
     go_ret
     exact ⟨q75_,q70_⟩
    rw [if_neg c45] at H
    have c45b0:((t678.size:Int) == (t674.size:Int)) = false:=beq_eq_false_iff_ne.mpr c45
    have c45b1:((t678.size:Int) != (t674.size:Int)) = true:=bne_iff_ne.mpr c45
    have c45b2:(t678.size == t674.size) = false:=by first | simpa using c45 | (simp at c45 ⊢;omega)
    obtain rfl:=Option.some.inj H
    go_wp2
    go_ret
    exact ⟨q75_,q70_⟩
/-- THE ONE PURE STATEMENT of laws_FnMarks: yours. -/
def laws_FnMarks.Pure:Prop:=∀ (l0:List Int),l0.length ≤ maxLen → l0.length * 1 ≤ 140737488351232 → (∀ x ∈ l0,(Lit.int .u8 x).wf = true) → ∃ k,laws_FnMarks.f k l0 = some true
theorem laws_FnMarks.walk (P:laws_FnMarks.Pure) (a0:Option Addr) (len0 cap0:Nat) (z0:List Int) (w:World) (w0:(a0 = none ∧ len0 = 0 ∧ cap0 = 0 ∧ z0 = []) ∨ ∃ x,a0 = some x ∧ len0 ≤ cap0 ∧ cap0 ≤ maxLen ∧ z0.length = cap0 ∧ (∀ i,i < z0.length → w.cell? (x.add i) = some (.int .u8 (z0.getD i 0))) ∧ ∀ n ∈ z0,(Lit.int .u8 n).wf = true) (y0:len0 * 1 ≤ 140737488351232) (hG:Go.Proofs.YtodlnnoekccmmaaGreatDoor.LibW.GL w) :
  Calls Tryz.prog 8 #[.slice a0 len0 cap0] w fun e w' => e = .returned (.bool true) ∧ Below w.heap.size w w':=by
 obtain ⟨l0,rfl,hr0,hm0,hw0,hc0⟩:=ReadsInt.ofRowC w0
 obtain ⟨k,h⟩:=P l0 hm0 y0 hw0
 refine (laws_FnMarks.calls k _ _ l0 true w (Kd.C_of_reads (d:=(0:Int)) (h1:=fun _ => rfl) hr0) hc0 h).mono ?_
 rintro e w' ⟨rfl,hd⟩
 exact ⟨rfl,hd⟩
end Go.Proofs.YtodlnnoekccmmaaGreatDoor.QFnMarks
