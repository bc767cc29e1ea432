/- The machine's side of a law,written by a program of this session for this claim. -/
import Derived.Test.YtodlnnoekccmmaaGreatDoorIQq
import Derived.Test.YtodlnnoekccmmaaGreatDoorIQFnInsTextsx0
import Derived.Test.YtodlnnoekccmmaaGreatDoorIQFnInsTextsx2
import Derived.Test.YtodlnnoekccmmaaGreatDoorIQFnInsTextsx4
import Derived.Test.YtodlnnoekccmmaaGreatDoorIQFnInsTextsx6
namespace Go.Proofs.YtodlnnoekccmmaaGreatDoor.QFnInsTexts
open Go.Proofs.YtodlnnoekccmmaaGreatDoor.Qq
open Go.RowKit Go.Proofs.YtodlnnoekccmmaaGreatDoor.LibX Go.Proofs.YtodlnnoekccmmaaGreatDoor.LibE Go.Proofs.YtodlnnoekccmmaaGreatDoor.LibCB Go.Proofs.YtodlnnoekccmmaaGreatDoorW.PrintWords Go.Proofs.YtodlnnoekccmmaaGreatDoorW.PrintLast Go.Proofs.YtodlnnoekccmmaaGreatDoorW.PrintMore
attribute [local go_sem] max2_int min2_int max_two min_two max_three min_three max_four min_four   -- for this text's walks alone
set_option maxHeartbeats 8000000
set_option maxRecDepth 100000
set_option linter.unusedVariables false
set_option linter.unusedSimpArgs false
def impl_holeOf.l0:Nat → ByteArray → List ByteArray → Int → Int → Option (ByteArray)
 | 0,_,_,_,_ => none
 | k + 1,x0,x5,x6,x7 => if x7 < x6 then (if 0 ≤ x7 then (if x7 < (x5.length:Int) then ((strings_Contains.f x0 (rdOf ByteArray.empty x5 x7)).bind fun t246 => (if t246 = true then (some (rdOf ByteArray.empty x5 x7)) else (impl_holeOf.l0 k x0 x5 x6 (wrap64 (x7 + 1))))) else (none)) else (none)) else (some (⟨#[]⟩:ByteArray))
def impl_holeOf.f (k:Nat) (a0:ByteArray):Option (ByteArray):=(impl_names.f (⟨#[110,49,54,32,110,56,32,101,56]⟩:ByteArray)).bind fun t242 => (impl_holeOf.l0 k a0 t242 (t242.length:Int) 0)
theorem impl_holeOf.mono_l:∀ k,(∀ y0 y1 y2 y3,LeO (impl_holeOf.l0 k y0 y1 y2 y3) (impl_holeOf.l0 (k + 1) y0 y1 y2 y3))
 | 0 => fun _ _ _ _ r h => by simp [impl_holeOf.l0] at h
 | k + 1 => by
  have ih0:=impl_holeOf.mono_l k
  intro y0 y1 y2 y3
  unfold impl_holeOf.l0
  repeat' first
  | (with_reducible first | exact ih0 _ _ _ _ | exact LeO.refl _ | exact LeO.none _ | refine LeO.ite ?_ ?_ | refine LeO.bind ?_ (fun _ => ?_))
  | exact ih0 _ _ _ _
  | exact LeO.none _
  | refine LeO.ite ?_ ?_
  | refine LeO.bind ?_ (fun _ => ?_)
theorem impl_holeOf.mono:∀ a0 k,LeO (impl_holeOf.f k a0) (impl_holeOf.f (k + 1) a0):=by
 intro a0 k
 have ih0:=impl_holeOf.mono_l k
 unfold impl_holeOf.f
 repeat' first
   | (with_reducible first | exact ih0 _ _ _ _ | exact LeO.refl _ | exact LeO.none _ | refine LeO.ite ?_ ?_ | refine LeO.bind ?_ (fun _ => ?_))
   | exact ih0 _ _ _ _
   | exact LeO.none _
   | refine LeO.ite ?_ ?_
   | refine LeO.bind ?_ (fun _ => ?_)
theorem impl_holeOf.calls (k:Nat) (a0:ByteArray) (r:ByteArray) (w:World) (h:impl_holeOf.f k a0 = some r) (hG:Go.Proofs.YtodlnnoekccmmaaGreatDoor.LibW.GL w:=by first | exact hG | exact hG.below q10_ | exact hG.drewN _) :
  Calls Tryz.prog 47 #[.string a0] w fun e w' => e = .returned (.string r) ∧ Below w.heap.size w w':=by
 have HB:=Aside0.mk (Below.refl w.heap.size w)
 have H:=h;unfold impl_holeOf.f at H
 clear h
 replace H:=Option.bind_eq_some_iff.mp H
 obtain ⟨t242,A20,H⟩:=H
 have A2:=Aside0.mk A20
 clear A20
 have H':=Aside0.mk H
 clear H
 go_enter Tryz.func47,Tryz.ntmps47
 go_wp2_with (first | ((with_reducible refine gate_callee (f:=97) rfl ?_);refine goesL_ (some 5) rfl rfl Tryz.func97 (by kernel_rfl) rfl #[.string (⟨#[110,49,54,32,110,56,32,101,56]⟩:ByteArray)] rfl q71_ ?_;(with_reducible refine (impl_names.calls (⟨#[110,49,54,32,110,56,32,101,56]⟩:ByteArray) t242 _ A2.out).mono ?_);rintro e w3 ⟨v243,rfl,ho0,hb⟩;refine ⟨_,rfl,?_⟩;have n0_:=Aside0.mk (Kd.R_lower ho0 (below_size q72_));have n1_:=Aside0.mk (below_step q72_ hb);clear HB;have HO244:=n0_;have HB:=n1_;clear n0_ n1_;(try clear hb);(try clear ho0);obtain ⟨Ao4,co4,eo4⟩:=Kd.R_slice HO244.out;subst eo4))
 go_loopg [7] k (fun kq v7 w' => ∃ (x7_1:Int),v7 = .int .i64 x7_1 ∧ Aside0 (impl_holeOf.l0 kq a0 t242 (t242.length:Int) x7_1 = some r) ∧ Aside0 (kq ≤ k) ∧ Aside0 (Kd.R Kd.string 9 w' w.heap.size (fun _ => True) (.slice Ao4 t242.length co4) t242) ∧ Aside0 (Below w.heap.size w w'))
 case atStart => exact ⟨(0),q92_,H',⟨Nat.le_refl _⟩,⟨by (with_reducible repeat (first | apply Kd.R_alloc | apply Kd.R_drewN | apply Kd.R_drew));exact HO244.out⟩,⟨q72_⟩⟩
 clear H'
 try clear p2
 try clear c4
 obtain ⟨x7_1,rfl,HA,HK1,HO_5,HB⟩:=hrel
 cases gk with
 | zero => exact absurd HA.out (by simp [impl_holeOf.l0])
 | succ k1 =>
  have H:=HA.out
  clear HA
  simp only [impl_holeOf.l0] at H
  by_cases c5:x7_1 < (t242.length:Int)
  ·rw [if_pos c5] at H
   have c5b0:=decide_eq_true c5
   clear c5
   by_cases c6:0 ≤ x7_1
   rotate_left
   ·rw [if_neg c6] at H
    exact absurd H (by simp)
   rw [if_pos c6] at H
   have c6b0:=decide_eq_true c6
   clear c6
   by_cases c7:x7_1 < (t242.length:Int)
   rotate_left
   ·rw [if_neg c7] at H
    exact absurd H (by simp)
   rw [if_pos c7] at H
   have c7b0:=decide_eq_true c7
   clear c7
   replace H:=Option.bind_eq_some_iff.mp H
   obtain ⟨t246,A80,H⟩:=H
   have A8:=Aside0.mk A80
   clear A80
   by_cases c9:t246 = true
   ·subst c9
    rewrite [if_pos rfl] at H
    obtain rfl:=Option.some.inj H
    have p245:0 ≤ (x7_1:Int):=of_decide_eq_true q109_
    have q245:x7_1 < (t242.length:Int):=of_decide_eq_true q109_
    obtain ⟨ad245,e245,hx245_0⟩:=Kd.at_string (Kd.R_reads' HO_5.out).2.2 x7_1 p245 q245
    cases e245
    replace p245:=eq_true p245
    replace q245:=eq_true q245
    go_wp2_with (first | ((with_reducible refine gate_callee (f:=98) rfl ?_);refine goesL_ (some 13) rfl rfl Tryz.func98 (by kernel_rfl) rfl #[.string a0,.string (rdOf ByteArray.empty t242 x7_1)] rfl q71_ ?_;(with_reducible refine (strings_Contains.calls a0 (rdOf ByteArray.empty t242 x7_1) true _ A8.out).mono ?_);rintro e w' ⟨rfl,⟨nd,rfl⟩⟩;refine ⟨_,rfl,?_⟩))
    go_ret
    exact ⟨q74_,q72_⟩
   replace c9:=Bool.eq_false_iff.mpr c9
   subst c9
   rewrite [if_neg (show ¬ (false = true) by decide)] at H
   have H':=Aside0.mk H
   clear H
   have p245:0 ≤ (x7_1:Int):=of_decide_eq_true q109_
   have q245:x7_1 < (t242.length:Int):=of_decide_eq_true q109_
   obtain ⟨ad245,e245,hx245_0⟩:=Kd.at_string (Kd.R_reads' HO_5.out).2.2 x7_1 p245 q245
   cases e245
   replace p245:=eq_true p245
   replace q245:=eq_true q245
   go_wp2_with (first | ((with_reducible refine gate_callee (f:=98) rfl ?_);refine goesL_ (some 13) rfl rfl Tryz.func98 (by kernel_rfl) rfl #[.string a0,.string (rdOf ByteArray.empty t242 x7_1)] rfl q71_ ?_;(with_reducible refine (strings_Contains.calls a0 (rdOf ByteArray.empty t242 x7_1) false _ A8.out).mono ?_);rintro e w' ⟨rfl,⟨nd,rfl⟩⟩;refine ⟨_,rfl,?_⟩))
   go_roundg k1
   case measure => have:=HK1.out;omega
   case rel => exact ⟨(wrap64 (x7_1 + 1)),q92_,H',⟨by have:=HK1.out;omega⟩,⟨by (with_reducible repeat (first | apply Kd.R_alloc | apply Kd.R_drewN | apply Kd.R_drew));exact HO_5.out⟩,⟨q72_⟩⟩
  rw [if_neg c5] at H
  have c5b0:=decide_eq_false c5
  clear c5
  obtain rfl:=Option.some.inj H
  go_wp2
  go_ret
  exact ⟨q74_,q72_⟩
def impl_InsOk.f (k:Nat) (a0_0:Int) (a0_1:Bool) (a0_2:Int):Option (Bool):=(impl_TemplateOf.f k a0_0 a0_1).bind fun t248 => (if t248.toList = ([]:List UInt8) then (some false) else ((impl_holeOf.f k t248).bind fun t249 => (if t249.toList = ([]:List UInt8) then (some (a0_2 == 0)) else (if t249.toList = ([110,49,54]:List UInt8) then ((impl_isWord.f a0_2).bind fun t250 => (some t250)) else ((impl_isByte.f a0_2).bind fun t251 => (some t251))))))
theorem impl_InsOk.calls (k:Nat) (a0_0:Int) (a0_1:Bool) (a0_2:Int) (r:Bool) (w:World) (h:impl_InsOk.f k a0_0 a0_1 a0_2 = some r) (hG:Go.Proofs.YtodlnnoekccmmaaGreatDoor.LibW.GL w:=by first | exact hG | exact hG.below q10_ | exact hG.drewN _) :
  Calls Tryz.prog 20 #[.agg #[.int .i64 a0_0,.bool a0_1,.int .i64 a0_2]] w fun e w' => e = .returned (.bool r) ∧ Below w.heap.size w w':=by
 have hu30:=Tryz.underlying30
 have HB:=Aside0.mk (Below.refl w.heap.size w)
 have H:=h;unfold impl_InsOk.f at H
 clear h
 replace H:=Option.bind_eq_some_iff.mp H
 obtain ⟨t248,A20,H⟩:=H
 have A2:=Aside0.mk A20
 clear A20
 by_cases c3:t248.toList = ([]:List UInt8)
 ·rw [if_pos c3] at H
  have c3b0:(t248.toList == ([]:List UInt8)) = true:=beq_iff_eq.mpr c3
  have c3b1:(t248.toList != ([]:List UInt8)) = false:=bne_eq_false_iff_eq.mpr c3
  have c3b9:t248.toList.isEmpty = true:=(isEmpty_beq _).trans c3b0
  clear c3
  obtain rfl:=Option.some.inj H
  go_enter Tryz.func20,Tryz.ntmps20
  go_wp2_with (first | ((with_reducible refine gate_dst (N:=1) rfl ?_);refine box_event ?hg (N:=1) ?hd (cs:=#[.int .i64 a0_0,.bool a0_1,.int .i64 a0_2]) (t:=30) ?hr ?_;(case hd => rfl);(case hg => rfl);(case hr => exact q139_);intro gb247 hg w4 hbox hb;have n0_:=Aside0.mk (below_step q72_ hb);have n1_:=Aside0.mk (hbox);have n2_:=Aside0.mk ((q56_:w.heap.size ≤ gb247));have n3_:=Aside0.mk ((q56_:w.heap.size ≤ gb247));clear HB;have HB:=n0_;have BK247:=n1_;have GW247:=n2_;have GE247:=n3_;clear n0_ n1_ n2_ n3_;clear hb hbox hg;have hcz5_0:w4.cell? ⟨gb247,0,none⟩ = some (.int .i64 a0_0):=(blk_cell BK247.out 0).trans rfl;have hcz5_1:w4.cell? ⟨gb247,1,none⟩ = some (.bool a0_1):=(blk_cell BK247.out 1).trans rfl;have hcz5_2:w4.cell? ⟨gb247,2,none⟩ = some (.int .i64 a0_2):=(blk_cell BK247.out 2).trans rfl;have hfz5_0:=blk_frozen BK247.out 0;have hfz5_1:=blk_frozen BK247.out 1;have hfz5_2:=blk_frozen BK247.out 2) | ((with_reducible refine gate_callee (f:=46) rfl ?_);refine goesL_ (some 8) rfl rfl Tryz.func46 (by kernel_rfl) rfl #[.int .i64 a0_0,.bool a0_1] rfl q71_ ?_;(with_reducible refine (impl_TemplateOf.calls k a0_0 a0_1 t248 _ A2.out).mono ?_);rintro e w6 ⟨rfl,hb⟩;refine ⟨_,rfl,?_⟩;have n0_:=Aside0.mk (blk_below (g:=gb247) (o:=.cells #[.int .i64 a0_0,.bool a0_1,.int .i64 a0_2] 30 (0,0)) q75_ hb);have n1_:=Aside0.mk (below_step q57_ hb);clear BK247;clear HB;have BK247:=n0_;have HB:=n1_;clear n0_ n1_;(try clear hb)))
  go_ret
  exact ⟨q74_,q57_⟩
 rw [if_neg c3] at H
 have c3b0:(t248.toList == ([]:List UInt8)) = false:=beq_eq_false_iff_ne.mpr c3
 have c3b1:(t248.toList != ([]:List UInt8)) = true:=bne_iff_ne.mpr c3
 have c3b9:t248.toList.isEmpty = false:=(isEmpty_beq _).trans c3b0
 replace H:=Option.bind_eq_some_iff.mp H
 obtain ⟨t249,A70,H⟩:=H
 have A7:=Aside0.mk A70
 clear A70
 by_cases c8:t249.toList = ([]:List UInt8)
 ·rw [if_pos c8] at H
  have c8b0:(t249.toList == ([]:List UInt8)) = true:=beq_iff_eq.mpr c8
  have c8b1:(t249.toList != ([]:List UInt8)) = false:=bne_eq_false_iff_eq.mpr c8
  have c8b9:t249.toList.isEmpty = true:=(isEmpty_beq _).trans c8b0
  clear c8
  obtain rfl:=Option.some.inj H
  go_enter Tryz.func20,Tryz.ntmps20
  go_wp2_with (first | ((with_reducible refine gate_dst (N:=1) rfl ?_);refine box_event ?hg (N:=1) ?hd (cs:=#[.int .i64 a0_0,.bool a0_1,.int .i64 a0_2]) (t:=30) ?hr ?_;(case hd => rfl);(case hg => rfl);(case hr => exact q139_);intro gb247 hg w9 hbox hb;have n0_:=Aside0.mk (below_step q72_ hb);have n1_:=Aside0.mk (hbox);have n2_:=Aside0.mk ((q56_:w.heap.size ≤ gb247));have n3_:=Aside0.mk ((q56_:w.heap.size ≤ gb247));clear HB;have HB:=n0_;have BK247:=n1_;have GW247:=n2_;have GE247:=n3_;clear n0_ n1_ n2_ n3_;clear hb hbox hg;have hcz10_0:w9.cell? ⟨gb247,0,none⟩ = some (.int .i64 a0_0):=(blk_cell BK247.out 0).trans rfl;have hcz10_1:w9.cell? ⟨gb247,1,none⟩ = some (.bool a0_1):=(blk_cell BK247.out 1).trans rfl;have hcz10_2:w9.cell? ⟨gb247,2,none⟩ = some (.int .i64 a0_2):=(blk_cell BK247.out 2).trans rfl;have hfz10_0:=blk_frozen BK247.out 0;have hfz10_1:=blk_frozen BK247.out 1;have hfz10_2:=blk_frozen BK247.out 2) | ((with_reducible refine gate_callee (f:=46) rfl ?_);refine goesL_ (some 8) rfl rfl Tryz.func46 (by kernel_rfl) rfl #[.int .i64 a0_0,.bool a0_1] rfl q71_ ?_;(with_reducible refine (impl_TemplateOf.calls k a0_0 a0_1 t248 _ A2.out).mono ?_);rintro e w11 ⟨rfl,hb⟩;refine ⟨_,rfl,?_⟩;have n0_:=Aside0.mk (blk_below (g:=gb247) (o:=.cells #[.int .i64 a0_0,.bool a0_1,.int .i64 a0_2] 30 (0,0)) q75_ hb);have n1_:=Aside0.mk (below_step q57_ hb);clear BK247;clear HB;have BK247:=n0_;have HB:=n1_;clear n0_ n1_;(try clear hb)) | ((with_reducible refine gate_callee (f:=47) rfl ?_);refine goesL_ (some 12) rfl rfl Tryz.func47 (by kernel_rfl) rfl #[.string t248] rfl q71_ ?_;(with_reducible refine (impl_holeOf.calls k t248 t249 _ A7.out).mono ?_);rintro e w12 ⟨rfl,hb⟩;refine ⟨_,rfl,?_⟩;have n0_:=Aside0.mk (blk_below (g:=gb247) (o:=.cells #[.int .i64 a0_0,.bool a0_1,.int .i64 a0_2] 30 (0,0)) q75_ hb);have n1_:=Aside0.mk (below_step q57_ hb);clear BK247;clear HB;have BK247:=n0_;have HB:=n1_;clear n0_ n1_;(try clear hb);have hcz13_0:w12.cell? ⟨gb247,0,none⟩ = some (.int .i64 a0_0):=(blk_cell BK247.out 0).trans rfl;have hcz13_1:w12.cell? ⟨gb247,1,none⟩ = some (.bool a0_1):=(blk_cell BK247.out 1).trans rfl;have hcz13_2:w12.cell? ⟨gb247,2,none⟩ = some (.int .i64 a0_2):=(blk_cell BK247.out 2).trans rfl;have hfz13_0:=blk_frozen BK247.out 0;have hfz13_1:=blk_frozen BK247.out 1;have hfz13_2:=blk_frozen BK247.out 2))
  go_ret
  exact ⟨q74_,q57_⟩
 rw [if_neg c8] at H
 have c8b0:(t249.toList == ([]:List UInt8)) = false:=beq_eq_false_iff_ne.mpr c8
 have c8b1:(t249.toList != ([]:List UInt8)) = true:=bne_iff_ne.mpr c8
 have c8b9:t249.toList.isEmpty = false:=(isEmpty_beq _).trans c8b0
 by_cases c14:t249.toList = ([110,49,54]:List UInt8)
 ·rw [if_pos c14] at H
  have c14b0:(t249.toList == ([110,49,54]:List UInt8)) = true:=beq_iff_eq.mpr c14
  have c14b1:(t249.toList != ([110,49,54]:List UInt8)) = false:=bne_eq_false_iff_eq.mpr c14
  clear c14
  replace H:=Option.bind_eq_some_iff.mp H
  obtain ⟨t250,A150,H⟩:=H
  have A15:=Aside0.mk A150
  clear A150
  obtain rfl:=Option.some.inj H
  go_enter Tryz.func20,Tryz.ntmps20
  go_wp2_with (first | ((with_reducible refine gate_dst (N:=1) rfl ?_);refine box_event ?hg (N:=1) ?hd (cs:=#[.int .i64 a0_0,.bool a0_1,.int .i64 a0_2]) (t:=30) ?hr ?_;(case hd => rfl);(case hg => rfl);(case hr => exact q139_);intro gb247 hg w16 hbox hb;have n0_:=Aside0.mk (below_step q72_ hb);have n1_:=Aside0.mk (hbox);have n2_:=Aside0.mk ((q56_:w.heap.size ≤ gb247));have n3_:=Aside0.mk ((q56_:w.heap.size ≤ gb247));clear HB;have HB:=n0_;have BK247:=n1_;have GW247:=n2_;have GE247:=n3_;clear n0_ n1_ n2_ n3_;clear hb hbox hg;have hcz17_0:w16.cell? ⟨gb247,0,none⟩ = some (.int .i64 a0_0):=(blk_cell BK247.out 0).trans rfl;have hcz17_1:w16.cell? ⟨gb247,1,none⟩ = some (.bool a0_1):=(blk_cell BK247.out 1).trans rfl;have hcz17_2:w16.cell? ⟨gb247,2,none⟩ = some (.int .i64 a0_2):=(blk_cell BK247.out 2).trans rfl;have hfz17_0:=blk_frozen BK247.out 0;have hfz17_1:=blk_frozen BK247.out 1;have hfz17_2:=blk_frozen BK247.out 2) | ((with_reducible refine gate_callee (f:=46) rfl ?_);refine goesL_ (some 8) rfl rfl Tryz.func46 (by kernel_rfl) rfl #[.int .i64 a0_0,.bool a0_1] rfl q71_ ?_;(with_reducible refine (impl_TemplateOf.calls k a0_0 a0_1 t248 _ A2.out).mono ?_);rintro e w18 ⟨rfl,hb⟩;refine ⟨_,rfl,?_⟩;have n0_:=Aside0.mk (blk_below (g:=gb247) (o:=.cells #[.int .i64 a0_0,.bool a0_1,.int .i64 a0_2] 30 (0,0)) q75_ hb);have n1_:=Aside0.mk (below_step q57_ hb);clear BK247;clear HB;have BK247:=n0_;have HB:=n1_;clear n0_ n1_;(try clear hb)) | ((with_reducible refine gate_callee (f:=47) rfl ?_);refine goesL_ (some 12) rfl rfl Tryz.func47 (by kernel_rfl) rfl #[.string t248] rfl q71_ ?_;(with_reducible refine (impl_holeOf.calls k t248 t249 _ A7.out).mono ?_);rintro e w19 ⟨rfl,hb⟩;refine ⟨_,rfl,?_⟩;have n0_:=Aside0.mk (blk_below (g:=gb247) (o:=.cells #[.int .i64 a0_0,.bool a0_1,.int .i64 a0_2] 30 (0,0)) q75_ hb);have n1_:=Aside0.mk (below_step q57_ hb);clear BK247;clear HB;have BK247:=n0_;have HB:=n1_;clear n0_ n1_;(try clear hb);have hcz20_0:w19.cell? ⟨gb247,0,none⟩ = some (.int .i64 a0_0):=(blk_cell BK247.out 0).trans rfl;have hcz20_1:w19.cell? ⟨gb247,1,none⟩ = some (.bool a0_1):=(blk_cell BK247.out 1).trans rfl;have hcz20_2:w19.cell? ⟨gb247,2,none⟩ = some (.int .i64 a0_2):=(blk_cell BK247.out 2).trans rfl;have hfz20_0:=blk_frozen BK247.out 0;have hfz20_1:=blk_frozen BK247.out 1;have hfz20_2:=blk_frozen BK247.out 2) | ((with_reducible refine gate_callee (f:=57) rfl ?_);refine goesL_ (some 22) rfl rfl Tryz.func57 (by kernel_rfl) rfl #[.int .i64 a0_2] rfl q71_ ?_;(with_reducible refine (impl_isWord.calls a0_2 t250 _ A15.out).mono ?_);rintro e w' ⟨rfl,⟨nd,rfl⟩⟩;refine ⟨_,rfl,?_⟩))
  go_ret
  exact ⟨q74_,q57_⟩
 rw [if_neg c14] at H
 have c14b0:(t249.toList == ([110,49,54]:List UInt8)) = false:=beq_eq_false_iff_ne.mpr c14
 have c14b1:(t249.toList != ([110,49,54]:List UInt8)) = true:=bne_iff_ne.mpr c14
 replace H:=Option.bind_eq_some_iff.mp H
 obtain ⟨t251,A210,H⟩:=H
 have A21:=Aside0.mk A210
 clear A210
 obtain rfl:=Option.some.inj H
 go_enter Tryz.func20,Tryz.ntmps20
 go_wp2_with (first | ((with_reducible refine gate_dst (N:=1) rfl ?_);refine box_event ?hg (N:=1) ?hd (cs:=#[.int .i64 a0_0,.bool a0_1,.int .i64 a0_2]) (t:=30) ?hr ?_;(case hd => rfl);(case hg => rfl);(case hr => exact q139_);intro gb247 hg w22 hbox hb;have n0_:=Aside0.mk (below_step q72_ hb);have n1_:=Aside0.mk (hbox);have n2_:=Aside0.mk ((q56_:w.heap.size ≤ gb247));have n3_:=Aside0.mk ((q56_:w.heap.size ≤ gb247));clear HB;have HB:=n0_;have BK247:=n1_;have GW247:=n2_;have GE247:=n3_;clear n0_ n1_ n2_ n3_;clear hb hbox hg;have hcz23_0:w22.cell? ⟨gb247,0,none⟩ = some (.int .i64 a0_0):=(blk_cell BK247.out 0).trans rfl;have hcz23_1:w22.cell? ⟨gb247,1,none⟩ = some (.bool a0_1):=(blk_cell BK247.out 1).trans rfl;have hcz23_2:w22.cell? ⟨gb247,2,none⟩ = some (.int .i64 a0_2):=(blk_cell BK247.out 2).trans rfl;have hfz23_0:=blk_frozen BK247.out 0;have hfz23_1:=blk_frozen BK247.out 1;have hfz23_2:=blk_frozen BK247.out 2) | ((with_reducible refine gate_callee (f:=46) rfl ?_);refine goesL_ (some 8) rfl rfl Tryz.func46 (by kernel_rfl) rfl #[.int .i64 a0_0,.bool a0_1] rfl q71_ ?_;(with_reducible refine (impl_TemplateOf.calls k a0_0 a0_1 t248 _ A2.out).mono ?_);rintro e w24 ⟨rfl,hb⟩;refine ⟨_,rfl,?_⟩;have n0_:=Aside0.mk (blk_below (g:=gb247) (o:=.cells #[.int .i64 a0_0,.bool a0_1,.int .i64 a0_2] 30 (0,0)) q75_ hb);have n1_:=Aside0.mk (below_step q57_ hb);clear BK247;clear HB;have BK247:=n0_;have HB:=n1_;clear n0_ n1_;(try clear hb)) | ((with_reducible refine gate_callee (f:=47) rfl ?_);refine goesL_ (some 12) rfl rfl Tryz.func47 (by kernel_rfl) rfl #[.string t248] rfl q71_ ?_;(with_reducible refine (impl_holeOf.calls k t248 t249 _ A7.out).mono ?_);rintro e w25 ⟨rfl,hb⟩;refine ⟨_,rfl,?_⟩;have n0_:=Aside0.mk (blk_below (g:=gb247) (o:=.cells #[.int .i64 a0_0,.bool a0_1,.int .i64 a0_2] 30 (0,0)) q75_ hb);have n1_:=Aside0.mk (below_step q57_ hb);clear BK247;clear HB;have BK247:=n0_;have HB:=n1_;clear n0_ n1_;(try clear hb);have hcz26_0:w25.cell? ⟨gb247,0,none⟩ = some (.int .i64 a0_0):=(blk_cell BK247.out 0).trans rfl;have hcz26_1:w25.cell? ⟨gb247,1,none⟩ = some (.bool a0_1):=(blk_cell BK247.out 1).trans rfl;have hcz26_2:w25.cell? ⟨gb247,2,none⟩ = some (.int .i64 a0_2):=(blk_cell BK247.out 2).trans rfl;have hfz26_0:=blk_frozen BK247.out 0;have hfz26_1:=blk_frozen BK247.out 1;have hfz26_2:=blk_frozen BK247.out 2) | ((with_reducible refine gate_callee (f:=58) rfl ?_);refine goesL_ (some 25) rfl rfl Tryz.func58 (by kernel_rfl) rfl #[.int .i64 a0_2] rfl q71_ ?_;(with_reducible refine (impl_isByte.calls a0_2 t251 _ A21.out).mono ?_);rintro e w' ⟨rfl,⟨nd,rfl⟩⟩;refine ⟨_,rfl,?_⟩))
 go_ret
 exact ⟨q74_,q57_⟩
/-- A state of type 96 at block g of W;what its slices lead to came in by w0. -/
def IsS96 (w0 W:World) (g:Nat) (f0:List Int) (f1:Int):Prop:=∃ A0 c0,W.heap[g]? = some (.cells #[.slice A0 f0.length c0,.int .i64 f1] 96 (0,0)) ∧ w0.heap.size ≤ g ∧ Kd.C (Kd.int .u8) w0 A0 f0.length f0
theorem IsS96.grown {w0 W:World} {g:Nat} {f0:List Int} {f1:Int} {W1:World} {row:Option Nat} (h:IsS96 w0 W g f0 f1) (hw:W.grownBy W1 row) (hne:some g ≠ row):IsS96 w0 W1 g f0 f1:=by
 obtain ⟨A0,c0,hb,hg,hr0⟩:=h
 exact ⟨A0,c0,blk_grown hb hw hne,hg,hr0⟩
theorem IsS96.below {w0 W:World} {g:Nat} {f0:List Int} {f1:Int} {W1:World} (h:IsS96 w0 W g f0 f1) (hw:Below W.heap.size W W1):IsS96 w0 W1 g f0 f1:=h.grown (grown_of_below hw none) (by simp)
theorem IsS96.alloc {w0 W:World} {g:Nat} {f0:List Int} {f1:Int} (h:IsS96 w0 W g f0 f1) (o:Obj):IsS96 w0 (W.alloc o) g f0 f1:=h.below (below_alloc (Below.refl _ _) o)
theorem IsS96.drewN {w0 W:World} {g:Nat} {f0:List Int} {f1:Int} (h:IsS96 w0 W g f0 f1) (m:Nat):IsS96 w0 (W.drewN m) g f0 f1:=h
theorem IsS96.drew {w0 W:World} {g:Nat} {f0:List Int} {f1:Int} (h:IsS96 w0 W g f0 f1):IsS96 w0 W.drew g f0 f1:=h
theorem IsS96.apart {w0 W:World} {g:Nat} {f0:List Int} {f1:Int} {α:Type} {d:Kd α} {e:Nat} {base:Nat} {ok:Nat → Prop} {v:Value} {xs:List α} (h:IsS96 w0 W g f0 f1) (ho:d.R e W base ok v xs) (ht:∀ q,q ∈ e :: d.E → q ≠ 96):d.R e W base (fun k => ok k ∧ k ≠ g) v xs:=by
 obtain ⟨A0,c0,hb,hg,hr0⟩:=h
 exact Kd.R_types ho hb ht
theorem IsS96.lt {w0 W:World} {g:Nat} {f0:List Int} {f1:Int} (h:IsS96 w0 W g f0 f1):g < W.heap.size:=by
 obtain ⟨A0,c0,hb,hg,hr0⟩:=h
 exact blk_lt hb
theorem IsS96.ge {w0 W:World} {g:Nat} {f0:List Int} {f1:Int} (h:IsS96 w0 W g f0 f1):w0.heap.size ≤ g:=by
 obtain ⟨A0,c0,hb,hg,hr0⟩:=h
 exact hg
theorem IsS96.ne_blk {w0 W:World} {g:Nat} {f0:List Int} {f1:Int} {a:Nat} {cs:Array Value} {t:TypeId} {fr:Nat × Nat} (h:IsS96 w0 W g f0 f1) (hb2:W.heap[a]? = some (.cells cs t fr)) (ht:t ≠ 96):g ≠ a:=by
 obtain ⟨A0,c0,hb,hg,hr0⟩:=h
 rintro rfl
 rw [hb] at hb2
 injection hb2 with hb2
 injection hb2 with _ ht2
 exact ht ht2.symm
theorem IsS96.far {w0 W:World} {g:Nat} {f0:List Int} {f1:Int} {p:Addr} (h:IsS96 w0 W g f0 f1) (hne:g ≠ p.block) (u:Value):IsS96 w0 (W.setCell p u) g f0 f1:=by
 obtain ⟨A0,c0,hb,hg,hr0⟩:=h
 exact ⟨A0,c0,blk_far hb hne u,hg,hr0⟩
theorem cellS96_0 {W:World} {g:Nat} {A0:Option Addr} {c0:Nat} {f0:List Int} {f1:Int} (h:W.heap[g]? = some (.cells #[.slice A0 f0.length c0,.int .i64 f1] 96 (0,0))):W.cell? ⟨g,0,none⟩ = some (.slice A0 f0.length c0):=(blk_cell h 0).trans rfl
theorem cellS96_1 {W:World} {g:Nat} {A0:Option Addr} {c0:Nat} {f0:List Int} {f1:Int} (h:W.heap[g]? = some (.cells #[.slice A0 f0.length c0,.int .i64 f1] 96 (0,0))):W.cell? ⟨g,1,none⟩ = some (.int .i64 f1):=(blk_cell h 1).trans rfl
theorem IsS96.set_1 {w0 W:World} {g:Nat} {f0:List Int} {f1:Int} (h:IsS96 w0 W g f0 f1) (x:Int):IsS96 w0 (W.setCell ⟨g,1,none⟩ (.int .i64 x)) g f0 x:=by
 obtain ⟨A0,c0,hb,hg,hr0⟩:=h
 exact ⟨A0,c0,by simpa using blk_set hb 1 (.int .i64 x),hg,hr0⟩
def spec_l1Open.f (l0:List Int):Option (List Int × Int):=some (l0,0)
theorem spec_l1Open.calls (A0:Option Addr) (c0:Nat) (l0:List Int) (r1:List Int) (r2:Int) (w0 w:World) (hB:Below w0.heap.size w0 w) (hr0:Kd.C (Kd.int .u8) w0 A0 l0.length l0) (hc0:l0.length ≤ c0) (h:spec_l1Open.f l0 = some (r1,r2)) :
  Calls Tryz.prog 43 #[.slice A0 l0.length c0] w fun e w' => ∃ g_:Nat,e = .returned (.pointer (some ⟨g_,0,none⟩)) ∧ IsS96 w0 w' g_ r1 r2 ∧ Below w0.heap.size w0 w' ∧ Below w.heap.size w w':=by
 have hu96:=Tryz.underlying96
 have HR0:=Aside0.mk hr0
 have HC0:=Aside0.mk hc0
 clear hr0 hc0
 have HBW:=Aside0.mk (Below.refl w.heap.size w)
 have HW0:=Aside0.mk hB.size
 have HB:=Aside0.mk hB
 clear hB
 have H:(some (l0,0)) = some (r1,r2):=h
 clear h
 simp only [Option.some.injEq,Prod.mk.injEq] at H
 obtain ⟨rfl,rfl⟩:=H
 go_enter Tryz.func43,Tryz.ntmps43
 go_wp2_with (first | ((with_reducible refine gate_dst (N:=5) rfl ?_);refine box_event ?hg (N:=5) ?hd (cs:=#[.slice A0 l0.length c0,.int .i64 0]) (t:=96) ?hr ?_;(case hd => rfl);(case hg => rfl);(case hr => exact q139_);intro gb252 hg w2 hbox hb;have n0_:=Aside0.mk (below_step HBW.out hb);have n1_:=Aside0.mk (below_step q72_ hb);have n2_:=Aside0.mk (hbox);have n3_:=Aside0.mk ((q55_:w.heap.size ≤ gb252));have n4_:=Aside0.mk ((Nat.le_trans HW0.out (q55_:w.heap.size ≤ gb252):w0.heap.size ≤ gb252));clear HBW;clear HB;have HBW:=n0_;have HB:=n1_;have BK252:=n2_;have GW252:=n3_;have GE252:=n4_;clear n0_ n1_ n2_ n3_ n4_;clear hb hbox hg))
 go_ret
 exact ⟨_,rfl,(show IsS96 w0 _ gb252 l0 0 from ⟨_,_,by (with_reducible repeat (first | refine blk_drewN ?_ _ | refine blk_drew ?_ | refine blk_alloc ?_ _));exact BK252.out,GE252.out,HR0.out⟩),by repeat (first | (with_reducible first | exact HB.out | apply below_alloc | apply pw_below_drewN | apply below_drew1 | refine below_set ?_ GE252.out) | exact HB.out),by repeat (first | (with_reducible first | exact HBW.out | apply below_alloc | apply pw_below_drewN | apply below_drew1 | refine below_set ?_ GW252.out) | exact HBW.out)⟩
def spec_l1Rd_next.f (s0_0:List Int) (s0_1:Int):Option (Int × Int):=if s0_1 ≥ (s0_0.length:Int) then (some (0,s0_1)) else (if 0 ≤ (wrap64 ((wrap64 (s0_1 + 1)) - 1)) then (if (wrap64 ((wrap64 (s0_1 + 1)) - 1)) < (s0_0.length:Int) then (some (wrap64 (rd s0_0 (wrap64 ((wrap64 (s0_1 + 1)) - 1))),wrap64 (s0_1 + 1))) else (none)) else (none))
theorem spec_l1Rd_next.calls (g:Nat) (s0_0:List Int) (s0_1:Int) (r1:Int) (r2:Int) (w0 w:World) (hI:IsS96 w0 w g s0_0 s0_1) (hB:Below w0.heap.size w0 w) (h:spec_l1Rd_next.f s0_0 s0_1 = some (r1,r2)) :
  Calls Tryz.prog 91 #[.pointer (some ⟨g,0,none⟩)] w fun e w' => e = .returned (.int .i64 r1) ∧ IsS96 w0 w' g s0_0 r2 ∧ Below w0.heap.size w0 w' ∧ KeepBut w w' g none:=by
 have HI0:=Aside0.mk hI
 have HK:=Aside0.mk (KeepBut.refl w g none)
 have HL:=Aside0.mk hB.size
 clear hI
 have HW0:=Aside0.mk hB.size
 have HB:=Aside0.mk hB
 clear hB
 have H:=h;unfold spec_l1Rd_next.f at H
 clear h
 by_cases c2:s0_1 ≥ (s0_0.length:Int)
 ·rw [if_pos c2] at H
  have c2b0:decide ((s0_0.length:Int) ≤ s0_1) = true:=decide_eq_true c2
  clear c2
  simp only [Option.some.injEq,Prod.mk.injEq] at H
  obtain ⟨rfl,rfl⟩:=H
  obtain ⟨ASz3_0,cSz3_0,HGz3,hgz3,HSz3_0⟩:=HI0.out
  have hcz3_0:=cellS96_0 HGz3
  have hcz3_1:=cellS96_1 HGz3
  have hfz3_1:=blk_frozen HGz3 1
  clear HGz3 hgz3
  go_enter Tryz.func91,Tryz.ntmps91
  go_wp2
  repeat (go_quiet (fail);try go_wp2)
  go_ret
  exact ⟨q74_,q68_,q54_,q69_⟩
 rw [if_neg c2] at H
 have c2b0:decide ((s0_0.length:Int) ≤ s0_1) = false:=decide_eq_false c2
 clear c2
 obtain ⟨ji4,hji4⟩:∃ j_:Int,(wrap64 ((wrap64 (s0_1 + 1)) - 1)) = j_:=⟨_,rfl⟩
 (first | rewrite [hji4] at H | simp only [hji4] at H)
 have hji4w:(IntKind.i64.wrap ((wrap64 (s0_1 + 1)) - 1)) = ji4:=(i64_w _).trans hji4
 by_cases c5:0 ≤ (ji4)
 rotate_left
 ·rw [if_neg c5] at H
  exact absurd H (by simp)
 rw [if_pos c5] at H
 have c5b0:=decide_eq_true c5
 clear c5
 by_cases c6:(ji4) < (s0_0.length:Int)
 rotate_left
 ·rw [if_neg c6] at H
  exact absurd H (by simp)
 rw [if_pos c6] at H
 have c6b0:=decide_eq_true c6
 clear c6
 simp only [Option.some.injEq,Prod.mk.injEq] at H
 obtain ⟨rfl,rfl⟩:=H
 obtain ⟨ASz7_0,cSz7_0,HGz7,hgz7,HSz7_0⟩:=HI0.out
 have hcz7_0:=cellS96_0 HGz7
 have hcz7_1:=cellS96_1 HGz7
 have hfz7_1:=blk_frozen HGz7 1
 clear HGz7 hgz7
 have p253:0 ≤ ((ji4):Int):=of_decide_eq_true q109_
 have q253:(ji4) < (s0_0.length:Int):=of_decide_eq_true q109_
 obtain ⟨ad253,e253,hx253_0⟩:=Kd.at_int HSz7_0 (ji4) p253 q253
 cases e253
 have hn253_0:ad253.block ≠ g:=Nat.ne_of_lt (Nat.lt_of_lt_of_le (by have:=World.block_lt_of_cell? _ _ hx253_0;first | rwa [add_block] at this | exact this) (IsS96.ge HI0.out))
 replace hx253_0:=pw_cell_below HB.out hx253_0
 replace hx253_0:=(cell_far (p:=⟨g,1,none⟩) (by first | (rw [add_block];exact hn253_0) | (show (Addr.add _ _).block ≠ _;rw [add_block];exact hn253_0) | exact hn253_0) (.int .i64 (wrap64 (s0_1 + 1)))).trans hx253_0
 (try have hy253_0:=fun (n_:Nat) => (show (((w.drewN n_).setCell ⟨g,1,none⟩ (.int .i64 (wrap64 (s0_1 + 1))))).cell? _ = some _ from hx253_0))
 clear hn253_0
 replace p253:=eq_true p253
 replace q253:=eq_true q253
 go_enter Tryz.func91,Tryz.ntmps91
 go_wp2
 repeat (go_quiet (fail);try go_wp2)
 go_ret
 exact ⟨q44_,q68_,q54_,q69_⟩
def spec_l1Rd_below.f (s0_0:List Int) (s0_1:Int) (a1:Int):Option (Int × Int):=if a1 ≤ 1 then (some (0,s0_1)) else (if a1 ≤ 256 then ((spec_l1Rd_next.f s0_0 s0_1).bind fun bt254 => (if a1 = 0 then (none) else (some (Int.tmod bt254.1 a1,bt254.2)))) else ((spec_l1Rd_next.f s0_0 s0_1).bind fun bt256 => ((spec_l1Rd_next.f s0_0 bt256.2).bind fun bt258 => (if a1 = 0 then (none) else (some (Int.tmod (wrap64 ((wrap64 (bt256.1 * 256)) + bt258.1)) a1,bt258.2))))))
theorem spec_l1Rd_below.calls (g:Nat) (s0_0:List Int) (s0_1:Int) (a1:Int) (r1:Int) (r2:Int) (w0 w:World) (hI:IsS96 w0 w g s0_0 s0_1) (hB:Below w0.heap.size w0 w) (h:spec_l1Rd_below.f s0_0 s0_1 a1 = some (r1,r2)) :
  Calls Tryz.prog 44 #[.pointer (some ⟨g,0,none⟩),.int .i64 a1] w fun e w' => e = .returned (.int .i64 r1) ∧ IsS96 w0 w' g s0_0 r2 ∧ Below w0.heap.size w0 w' ∧ KeepBut w w' g none:=by
 have HI0:=Aside0.mk hI
 have HK:=Aside0.mk (KeepBut.refl w g none)
 have HL:=Aside0.mk hB.size
 clear hI
 have HW0:=Aside0.mk hB.size
 have HB:=Aside0.mk hB
 clear hB
 have H:=h;unfold spec_l1Rd_below.f at H
 clear h
 by_cases c3:a1 ≤ 1
 ·rw [if_pos c3] at H
  have c3b0:=decide_eq_true c3
  clear c3
  simp only [Option.some.injEq,Prod.mk.injEq] at H
  obtain ⟨rfl,rfl⟩:=H
  go_enter Tryz.func44,Tryz.ntmps44
  go_wp2
  go_ret
  exact ⟨q74_,q68_,q54_,q69_⟩
 rw [if_neg c3] at H
 have c3b0:=decide_eq_false c3
 clear c3
 by_cases c4:a1 ≤ 256
 ·rw [if_pos c4] at H
  have c4b0:=decide_eq_true c4
  clear c4
  replace H:=Option.bind_eq_some_iff.mp H
  obtain ⟨⟨t254,t255⟩,A50,H⟩:=H
  try dsimp -simprocs -eta only at H
  have A5:=Aside0.mk A50
  clear A50
  by_cases c6:a1 = 0
  ·rw [if_pos c6] at H
   exact absurd H (by simp)
  rw [if_neg c6] at H
  have c6b0:(a1 == 0) = false:=beq_eq_false_iff_ne.mpr c6
  have c6b1:(a1 != 0) = true:=bne_iff_ne.mpr c6
  simp only [Option.some.injEq,Prod.mk.injEq] at H
  obtain ⟨rfl,rfl⟩:=H
  go_enter Tryz.func44,Tryz.ntmps44
  go_wp2_with (first | ((with_reducible refine gate_callee (f:=91) rfl ?_);refine goesL_ (some 11) rfl rfl Tryz.func91 (by kernel_rfl) rfl #[.pointer (some ⟨g,0,none⟩)] rfl q71_ ?_;(with_reducible refine (spec_l1Rd_next.calls g s0_0 s0_1 t254 t255 w0 _ ?side1 ?side2 A5.out).mono ?_);(case side1 => exact q138_);(case side2 => exact q134_);rintro e w7 ⟨rfl,hi,hb,hk⟩;refine ⟨_,rfl,?_⟩;have n0_:=Aside0.mk (KeepBut.trans q69_ hk (.inl rfl));have n1_:=Aside0.mk (hb);have n2_:=Aside0.mk (hi);clear HK;clear HB;clear HI0;have HK:=n0_;have HB:=n1_;have HI0:=n2_;clear n0_ n1_ n2_;(try clear hb);(try clear hk);(try clear hi)))
  go_ret
  exact ⟨q74_,q68_,q54_,q69_⟩
 rw [if_neg c4] at H
 have c4b0:=decide_eq_false c4
 clear c4
 replace H:=Option.bind_eq_some_iff.mp H
 obtain ⟨⟨t256,t257⟩,A80,H⟩:=H
 try dsimp -simprocs -eta only at H
 have A8:=Aside0.mk A80
 clear A80
 replace H:=Option.bind_eq_some_iff.mp H
 obtain ⟨⟨t258,t259⟩,A90,H⟩:=H
 try dsimp -simprocs -eta only at H
 have A9:=Aside0.mk A90
 clear A90
 by_cases c10:a1 = 0
 ·rw [if_pos c10] at H
  exact absurd H (by simp)
 rw [if_neg c10] at H
 have c10b0:(a1 == 0) = false:=beq_eq_false_iff_ne.mpr c10
 have c10b1:(a1 != 0) = true:=bne_iff_ne.mpr c10
 simp only [Option.some.injEq,Prod.mk.injEq] at H
 obtain ⟨rfl,rfl⟩:=H
 go_enter Tryz.func44,Tryz.ntmps44
 go_wp2_with (first | ((with_reducible refine gate_callee (f:=91) rfl ?_);refine goesL_ (some 15) rfl rfl Tryz.func91 (by kernel_rfl) rfl #[.pointer (some ⟨g,0,none⟩)] rfl q71_ ?_;(with_reducible refine (spec_l1Rd_next.calls g s0_0 s0_1 t256 t257 w0 _ ?side1 ?side2 A8.out).mono ?_);(case side1 => exact q138_);(case side2 => exact q134_);rintro e w11 ⟨rfl,hi,hb,hk⟩;refine ⟨_,rfl,?_⟩;have n0_:=Aside0.mk (KeepBut.trans q69_ hk (.inl rfl));have n1_:=Aside0.mk (hb);have n2_:=Aside0.mk (hi);clear HK;clear HB;clear HI0;have HK:=n0_;have HB:=n1_;have HI0:=n2_;clear n0_ n1_ n2_;(try clear hb);(try clear hk);(try clear hi)) | ((with_reducible refine gate_callee (f:=91) rfl ?_);refine goesL_ (some 19) rfl rfl Tryz.func91 (by kernel_rfl) rfl #[.pointer (some ⟨g,0,none⟩)] rfl q71_ ?_;(with_reducible refine (spec_l1Rd_next.calls g s0_0 t257 t258 t259 w0 _ ?side1 ?side2 A9.out).mono ?_);(case side1 => exact q138_);(case side2 => exact q134_);rintro e w12 ⟨rfl,hi,hb,hk⟩;refine ⟨_,rfl,?_⟩;have n0_:=Aside0.mk (KeepBut.trans q69_ hk (.inl rfl));have n1_:=Aside0.mk (hb);have n2_:=Aside0.mk (hi);clear HK;clear HB;clear HI0;have HK:=n0_;have HB:=n1_;have HI0:=n2_;clear n0_ n1_ n2_;(try clear hb);(try clear hk);(try clear hi)))
 go_ret
 exact ⟨q74_,q68_,q54_,q69_⟩
def spec_l1Rd_once.f (s0_0:List Int) (s0_1:Int) (a1:Int):Option (Bool × Int):=(spec_l1Rd_below.f s0_0 s0_1 a1).bind fun bt260 => (some ((bt260.1 == (wrap64 (a1 - 1))),bt260.2))
theorem spec_l1Rd_once.calls (g:Nat) (s0_0:List Int) (s0_1:Int) (a1:Int) (r1:Bool) (r2:Int) (w0 w:World) (hI:IsS96 w0 w g s0_0 s0_1) (hB:Below w0.heap.size w0 w) (h:spec_l1Rd_once.f s0_0 s0_1 a1 = some (r1,r2)) :
  Calls Tryz.prog 45 #[.pointer (some ⟨g,0,none⟩),.int .i64 a1] w fun e w' => e = .returned (.bool r1) ∧ IsS96 w0 w' g s0_0 r2 ∧ Below w0.heap.size w0 w' ∧ KeepBut w w' g none:=by
 have HI0:=Aside0.mk hI
 have HK:=Aside0.mk (KeepBut.refl w g none)
 have HL:=Aside0.mk hB.size
 clear hI
 have HW0:=Aside0.mk hB.size
 have HB:=Aside0.mk hB
 clear hB
 have H:=h;unfold spec_l1Rd_once.f at H
 clear h
 replace H:=Option.bind_eq_some_iff.mp H
 obtain ⟨⟨t260,t261⟩,A30,H⟩:=H
 try dsimp -simprocs -eta only at H
 have A3:=Aside0.mk A30
 clear A30
 simp only [Option.some.injEq,Prod.mk.injEq] at H
 obtain ⟨rfl,rfl⟩:=H
 go_enter Tryz.func45,Tryz.ntmps45
 go_wp2_with (first | ((with_reducible refine gate_callee (f:=44) rfl ?_);refine goesL_ (some 7) rfl rfl Tryz.func44 (by kernel_rfl) rfl #[.pointer (some ⟨g,0,none⟩),.int .i64 a1] rfl q71_ ?_;(with_reducible refine (spec_l1Rd_below.calls g s0_0 s0_1 a1 t260 t261 w0 _ ?side1 ?side2 A3.out).mono ?_);(case side1 => exact q138_);(case side2 => exact q134_);rintro e w4 ⟨rfl,hi,hb,hk⟩;refine ⟨_,rfl,?_⟩;have n0_:=Aside0.mk (KeepBut.trans q69_ hk (.inl rfl));have n1_:=Aside0.mk (hb);have n2_:=Aside0.mk (hi);clear HK;clear HB;clear HI0;have HK:=n0_;have HB:=n1_;have HI0:=n2_;clear n0_ n1_ n2_;(try clear hb);(try clear hk);(try clear hi)))
 go_ret
 exact ⟨q74_,q68_,q54_,q69_⟩
mutual
def spec_l3Hole.l0:Nat → ByteArray → List ByteArray → Int → Option (Int × ByteArray)
 | 0,_,_,_ => none
 | k + 1,x0,x4,x5 => if x5 < (x4.length:Int) then (spec_l3Hole.l1 k x0 x4 x5 0) else (some ((-1),(⟨#[]⟩:ByteArray)))
def spec_l3Hole.l1:Nat → ByteArray → List ByteArray → Int → Int → Option (Int × ByteArray)
 | 0,_,_,_,_ => none
 | k + 1,x0,x4,x5,x6 => if 0 ≤ x5 then (if x5 < (x4.length:Int) then (if (wrap64 (x6 + ((rdOf ByteArray.empty x4 x5).size:Int))) ≤ (x0.size:Int) then (if 0 ≤ x6 then (if x6 ≤ (wrap64 (x6 + ((rdOf ByteArray.empty x4 x5).size:Int))) then (if (x0.extract (x6:Int).toNat ((wrap64 (x6 + ((rdOf ByteArray.empty x4 x5).size:Int))):Int).toNat).toList = (rdOf ByteArray.empty x4 x5).toList then (some (x6,rdOf ByteArray.empty x4 x5)) else (spec_l3Hole.l1 k x0 x4 x5 (wrap64 (x6 + 1)))) else (none)) else (none)) else (spec_l3Hole.l0 k x0 x4 (wrap64 (x5 + 1)))) else (none)) else (none)
end
def spec_l3Hole.f (k:Nat) (a0:ByteArray):Option (Int × ByteArray):=spec_l3Hole.l0 k a0 (([(⟨#[110,49,54]⟩:ByteArray),(⟨#[110,56]⟩:ByteArray),(⟨#[101,56]⟩:ByteArray)]:List ByteArray)) 0
theorem spec_l3Hole.mono_l:∀ k,(∀ y0 y1 y2,LeO (spec_l3Hole.l0 k y0 y1 y2) (spec_l3Hole.l0 (k + 1) y0 y1 y2)) ∧ (∀ y0 y1 y2 y3,LeO (spec_l3Hole.l1 k y0 y1 y2 y3) (spec_l3Hole.l1 (k + 1) y0 y1 y2 y3))
 | 0 => ⟨fun _ _ _ r h => by simp [spec_l3Hole.l0] at h,fun _ _ _ _ r h => by simp [spec_l3Hole.l1] at h⟩
 | k + 1 => by
  obtain ⟨ih0,ih1⟩:=spec_l3Hole.mono_l k
  refine ⟨?_,?_⟩
  ·intro y0 y1 y2
   unfold spec_l3Hole.l0
   repeat' first
   | (with_reducible first | exact ih0 _ _ _ | exact ih1 _ _ _ _ | exact LeO.refl _ | exact LeO.none _ | refine LeO.ite ?_ ?_ | refine LeO.bind ?_ (fun _ => ?_))
   | exact ih0 _ _ _
   | exact ih1 _ _ _ _
   | exact LeO.none _
   | refine LeO.ite ?_ ?_
   | refine LeO.bind ?_ (fun _ => ?_)
  intro y0 y1 y2 y3
  unfold spec_l3Hole.l1
  repeat' first
  | (with_reducible first | exact ih0 _ _ _ | exact ih1 _ _ _ _ | exact LeO.refl _ | exact LeO.none _ | refine LeO.ite ?_ ?_ | refine LeO.bind ?_ (fun _ => ?_))
  | exact ih0 _ _ _
  | exact ih1 _ _ _ _
  | exact LeO.none _
  | refine LeO.ite ?_ ?_
  | refine LeO.bind ?_ (fun _ => ?_)
theorem spec_l3Hole.mono:∀ a0 k,LeO (spec_l3Hole.f k a0) (spec_l3Hole.f (k + 1) a0):=by
 intro a0 k
 obtain ⟨ih0,ih1⟩:=spec_l3Hole.mono_l k
 unfold spec_l3Hole.f
 repeat' first
   | (with_reducible first | exact ih0 _ _ _ | exact ih1 _ _ _ _ | exact LeO.refl _ | exact LeO.none _ | refine LeO.ite ?_ ?_ | refine LeO.bind ?_ (fun _ => ?_))
   | exact ih0 _ _ _
   | exact ih1 _ _ _ _
   | exact LeO.none _
   | refine LeO.ite ?_ ?_
   | refine LeO.bind ?_ (fun _ => ?_)
theorem spec_l3Hole.calls (k:Nat) (a0:ByteArray) (r1:Int) (r2:ByteArray) (w:World) (h:spec_l3Hole.f k a0 = some (r1,r2)) :
  Calls Tryz.prog 59 #[.string a0] w fun e w' => e = .returned (.tuple #[.int .i64 r1,.string r2]) ∧ Below w.heap.size w w':=by
 have HB:=Aside0.mk (Below.refl w.heap.size w)
 have H:=h;unfold spec_l3Hole.f at H
 clear h
 obtain ⟨y262,hy262⟩:∃ y_:List ByteArray,y_ = (([(⟨#[110,49,54]⟩:ByteArray),(⟨#[110,56]⟩:ByteArray),(⟨#[101,56]⟩:ByteArray)]:List ByteArray)):=⟨_,rfl⟩
 replace H:(spec_l3Hole.l0 k a0 y262 0) = some (r1,r2):=by first | (rw [hy262];exact H) | exact H
 have Ny262:=Aside0.mk hy262
 clear hy262
 have H':=Aside0.mk H
 clear H
 go_enter Tryz.func59,Tryz.ntmps59
 go_wp2_with (first | ((with_reducible refine gate_dst (N:=7) rfl ?_);refine Kd.R_lit Kd.string _ 9 ?hg (N:=7) ?hd (xs:=([(⟨#[110,49,54]⟩:ByteArray),(⟨#[110,56]⟩:ByteArray),(⟨#[101,56]⟩:ByteArray)]:List ByteArray)) (inner:=[.string (⟨#[110,49,54]⟩:ByteArray),.string (⟨#[110,56]⟩:ByteArray),.string (⟨#[101,56]⟩:ByteArray)]) (ok:=fun _ => True) (okp:=fun _ => True) ?hr ?hp (fun _ hk => hk) trivial (Below.refl _ _) (Nat.le_refl _) (by simp) ?_;(case hd => rfl);(case hg => rfl);(case hr => exact q139_);(case hp => exact q128_);intro v263 w2 ho3 hb hg_ hnew_;clear hg_ hnew_;(first | rw [← Ny262.out] at ho3 | (simp only [Int.reduceToNat] at ho3;rw [← Ny262.out] at ho3));have n0_:=Aside0.mk (Kd.R_lower ho3 (below_size q72_));have n1_:=Aside0.mk (below_step q72_ hb);clear HB;have HO264:=n0_;have HB:=n1_;clear n0_ n1_;clear hb ho3))
 repeat (go_quiet (first | ((with_reducible refine gate_dst (N:=7) rfl ?_);refine Kd.R_lit Kd.string _ 9 ?hg (N:=7) ?hd (xs:=([(⟨#[110,49,54]⟩:ByteArray),(⟨#[110,56]⟩:ByteArray),(⟨#[101,56]⟩:ByteArray)]:List ByteArray)) (inner:=[.string (⟨#[110,49,54]⟩:ByteArray),.string (⟨#[110,56]⟩:ByteArray),.string (⟨#[101,56]⟩:ByteArray)]) (ok:=fun _ => True) (okp:=fun _ => True) ?hr ?hp (fun _ hk => hk) trivial (Below.refl _ _) (Nat.le_refl _) (by simp) ?_;(case hd => rfl);(case hg => rfl);(case hr => exact q139_);(case hp => exact q128_);intro v263 w2 ho3 hb hg_ hnew_;clear hg_ hnew_;(first | rw [← Ny262.out] at ho3 | (simp only [Int.reduceToNat] at ho3;rw [← Ny262.out] at ho3));have n0_:=Aside0.mk (Kd.R_lower ho3 (below_size q72_));have n1_:=Aside0.mk (below_step q72_ hb);clear HB;have HO264:=n0_;have HB:=n1_;clear n0_ n1_;clear hb ho3));try go_wp2_with (first | ((with_reducible refine gate_dst (N:=7) rfl ?_);refine Kd.R_lit Kd.string _ 9 ?hg (N:=7) ?hd (xs:=([(⟨#[110,49,54]⟩:ByteArray),(⟨#[110,56]⟩:ByteArray),(⟨#[101,56]⟩:ByteArray)]:List ByteArray)) (inner:=[.string (⟨#[110,49,54]⟩:ByteArray),.string (⟨#[110,56]⟩:ByteArray),.string (⟨#[101,56]⟩:ByteArray)]) (ok:=fun _ => True) (okp:=fun _ => True) ?hr ?hp (fun _ hk => hk) trivial (Below.refl _ _) (Nat.le_refl _) (by simp) ?_;(case hd => rfl);(case hg => rfl);(case hr => exact q139_);(case hp => exact q128_);intro v263 w2 ho3 hb hg_ hnew_;clear hg_ hnew_;(first | rw [← Ny262.out] at ho3 | (simp only [Int.reduceToNat] at ho3;rw [← Ny262.out] at ho3));have n0_:=Aside0.mk (Kd.R_lower ho3 (below_size q72_));have n1_:=Aside0.mk (below_step q72_ hb);clear HB;have HO264:=n0_;have HB:=n1_;clear n0_ n1_;clear hb ho3)))
 go_loopg [5] k (fun kq v5 w' => ∃ (x5_1:Int),v5 = .int .i64 x5_1 ∧ Aside0 (spec_l3Hole.l0 kq a0 y262 x5_1 = some (r1,r2)) ∧ Aside0 (kq ≤ k) ∧ Aside0 (Kd.R Kd.string 9 w' w.heap.size (fun _ => True) v263 y262) ∧ Aside0 (Below w.heap.size w w'))
 case atStart => exact ⟨(0),q92_,H',⟨Nat.le_refl _⟩,⟨by (with_reducible repeat (first | apply Kd.R_alloc | apply Kd.R_drewN | apply Kd.R_drew));exact HO264.out⟩,⟨q72_⟩⟩
 clear H'
 try clear p2
 obtain ⟨x5_1,rfl,HA,HK1,HO_4,HB⟩:=hrel
 cases gk with
 | zero => exact absurd HA.out (by simp [spec_l3Hole.l0])
 | succ k1 =>
  have H:=HA.out
  clear HA
  simp only [spec_l3Hole.l0] at H
  by_cases c4:x5_1 < (y262.length:Int)
  ·rw [if_pos c4] at H
   have c4b0:=decide_eq_true c4
   clear c4
   have H':=Aside0.mk H
   clear H
   obtain ⟨Ao5,co5,eo5⟩:=Kd.R_slice HO_4.out
   subst eo5
   go_wp2
   repeat (go_quiet (fail);try go_wp2)
   go_loopg [6] k1 (fun kq v6 w' => ∃ (x6_2:Int),v6 = .int .i64 x6_2 ∧ Aside0 (spec_l3Hole.l1 kq a0 y262 x5_1 x6_2 = some (r1,r2)) ∧ Aside0 (kq ≤ k1) ∧ Aside0 (Kd.R Kd.string 9 w' w.heap.size (fun _ => True) (.slice Ao5 y262.length co5) y262) ∧ Aside0 (Below w.heap.size w w'))
   case atStart => exact ⟨(0),q92_,H',⟨Nat.le_refl _⟩,⟨q104_⟩,⟨q72_⟩⟩
   clear H'
   try clear p2 p2
   try clear c4
   try clear c4b0
   try clear c5
   obtain ⟨x6_2,rfl,HA,HK2,HO_4,HB⟩:=hrel
   cases gk with
   | zero => exact absurd HA.out (by simp [spec_l3Hole.l1])
   | succ k2 =>
    have H:=HA.out
    clear HA
    simp only [spec_l3Hole.l1] at H
    by_cases c6:0 ≤ x5_1
    rotate_left
    ·rw [if_neg c6] at H
     exact absurd H (by simp)
    rw [if_pos c6] at H
    have c6b0:=decide_eq_true c6
    clear c6
    by_cases c7:x5_1 < (y262.length:Int)
    rotate_left
    ·rw [if_neg c7] at H
     exact absurd H (by simp)
    rw [if_pos c7] at H
    have c7b0:=decide_eq_true c7
    clear c7
    by_cases c8:(wrap64 (x6_2 + ((rdOf ByteArray.empty y262 x5_1).size:Int))) ≤ (a0.size:Int)
    ·rw [if_pos c8] at H
     have c8b0:=decide_eq_true c8
     clear c8
     by_cases c9:0 ≤ x6_2
     rotate_left
     ·rw [if_neg c9] at H
      exact absurd H (by simp)
     rw [if_pos c9] at H
     have c9b0:=eq_true c9
     have c9b1:=decide_eq_true c9
     clear c9
     by_cases c10:x6_2 ≤ (wrap64 (x6_2 + ((rdOf ByteArray.empty y262 x5_1).size:Int)))
     rotate_left
     ·rw [if_neg c10] at H
      exact absurd H (by simp)
     rw [if_pos c10] at H
     have c10b0:=eq_true c10
     have c10b1:=decide_eq_true c10
     have c11b0:=eq_true (of_decide_eq_true q109_:(wrap64 (x6_2 + ((rdOf ByteArray.empty y262 x5_1).size:Int))) ≤ (a0.size:Int))
     by_cases c12:(a0.extract (x6_2:Int).toNat ((wrap64 (x6_2 + ((rdOf ByteArray.empty y262 x5_1).size:Int))):Int).toNat).toList = (rdOf ByteArray.empty y262 x5_1).toList
     ·rw [if_pos c12] at H
      have c12b0:((a0.extract (x6_2:Int).toNat ((wrap64 (x6_2 + ((rdOf ByteArray.empty y262 x5_1).size:Int))):Int).toNat).toList == (rdOf ByteArray.empty y262 x5_1).toList) = true:=beq_iff_eq.mpr c12
      have c12b1:((a0.extract (x6_2:Int).toNat ((wrap64 (x6_2 + ((rdOf ByteArray.empty y262 x5_1).size:Int))):Int).toNat).toList != (rdOf ByteArray.empty y262 x5_1).toList) = false:=bne_eq_false_iff_eq.mpr c12
      clear c12
      simp only [Option.some.injEq,Prod.mk.injEq] at H
      obtain ⟨rfl,rfl⟩:=H
      have p265:0 ≤ (x5_1:Int):=of_decide_eq_true q109_
      have q265:x5_1 < (y262.length:Int):=of_decide_eq_true q109_
      obtain ⟨ad265,e265,hx265_0⟩:=Kd.at_string (Kd.R_reads' HO_4.out).2.2 x5_1 p265 q265
      cases e265
      replace p265:=eq_true p265
      replace q265:=eq_true q265
      have p266:0 ≤ (x5_1:Int):=of_decide_eq_true q109_
      have q266:x5_1 < (y262.length:Int):=of_decide_eq_true q109_
      obtain ⟨ad266,e266,hx266_0⟩:=Kd.at_string (Kd.R_reads' HO_4.out).2.2 x5_1 p266 q266
      obtain rfl:ad265 = ad266:=(by injection e266)
      replace p266:=eq_true p266
      replace q266:=eq_true q266
      have p267:0 ≤ (x5_1:Int):=of_decide_eq_true q109_
      have q267:x5_1 < (y262.length:Int):=of_decide_eq_true q109_
      obtain ⟨ad267,e267,hx267_0⟩:=Kd.at_string (Kd.R_reads' HO_4.out).2.2 x5_1 p267 q267
      obtain rfl:ad265 = ad267:=(by injection e267)
      replace p267:=eq_true p267
      replace q267:=eq_true q267
      have p268:0 ≤ (x5_1:Int):=of_decide_eq_true q109_
      have q268:x5_1 < (y262.length:Int):=of_decide_eq_true q109_
      obtain ⟨ad268,e268,hx268_0⟩:=Kd.at_string (Kd.R_reads' HO_4.out).2.2 x5_1 p268 q268
      obtain rfl:ad265 = ad268:=(by injection e268)
      replace p268:=eq_true p268
      replace q268:=eq_true q268
      go_wp2
      repeat (go_quiet (fail);try go_wp2)
      go_ret2
      exact ⟨q74_,q72_⟩
     rw [if_neg c12] at H
     have c12b0:((a0.extract (x6_2:Int).toNat ((wrap64 (x6_2 + ((rdOf ByteArray.empty y262 x5_1).size:Int))):Int).toNat).toList == (rdOf ByteArray.empty y262 x5_1).toList) = false:=beq_eq_false_iff_ne.mpr c12
     have c12b1:((a0.extract (x6_2:Int).toNat ((wrap64 (x6_2 + ((rdOf ByteArray.empty y262 x5_1).size:Int))):Int).toNat).toList != (rdOf ByteArray.empty y262 x5_1).toList) = true:=bne_iff_ne.mpr c12
     have H':=Aside0.mk H
     clear H
     have p265:0 ≤ (x5_1:Int):=of_decide_eq_true q109_
     have q265:x5_1 < (y262.length:Int):=of_decide_eq_true q109_
     obtain ⟨ad265,e265,hx265_0⟩:=Kd.at_string (Kd.R_reads' HO_4.out).2.2 x5_1 p265 q265
     cases e265
     replace p265:=eq_true p265
     replace q265:=eq_true q265
     have p266:0 ≤ (x5_1:Int):=of_decide_eq_true q109_
     have q266:x5_1 < (y262.length:Int):=of_decide_eq_true q109_
     obtain ⟨ad266,e266,hx266_0⟩:=Kd.at_string (Kd.R_reads' HO_4.out).2.2 x5_1 p266 q266
     obtain rfl:ad265 = ad266:=(by injection e266)
     replace p266:=eq_true p266
     replace q266:=eq_true q266
     have p267:0 ≤ (x5_1:Int):=of_decide_eq_true q109_
     have q267:x5_1 < (y262.length:Int):=of_decide_eq_true q109_
     obtain ⟨ad267,e267,hx267_0⟩:=Kd.at_string (Kd.R_reads' HO_4.out).2.2 x5_1 p267 q267
     obtain rfl:ad265 = ad267:=(by injection e267)
     replace p267:=eq_true p267
     replace q267:=eq_true q267
     go_wp2
     repeat (go_quiet (fail);try go_wp2)
     go_roundg k2
     case measure => have:=HK1.out;have:=HK2.out;omega
     case rel => exact ⟨(wrap64 (x6_2 + 1)),q92_,H',⟨by have:=HK1.out;have:=HK2.out;omega⟩,⟨q104_⟩,⟨q72_⟩⟩
    rw [if_neg c8] at H
    have c8b0:=decide_eq_false c8
    clear c8
    have H':=Aside0.mk H
    clear H
    have p265:0 ≤ (x5_1:Int):=of_decide_eq_true q109_
    have q265:x5_1 < (y262.length:Int):=of_decide_eq_true q109_
    obtain ⟨ad265,e265,hx265_0⟩:=Kd.at_string (Kd.R_reads' HO_4.out).2.2 x5_1 p265 q265
    cases e265
    replace p265:=eq_true p265
    replace q265:=eq_true q265
    go_wp2
    repeat (go_quiet (fail);try go_wp2)
    go_roundg k2
    case measure => have:=HK1.out;have:=HK2.out;omega
    case rel => exact ⟨(wrap64 (x5_1 + 1)),q92_,H',⟨by have:=HK1.out;have:=HK2.out;omega⟩,⟨q104_⟩,⟨q72_⟩⟩
  rw [if_neg c4] at H
  have c4b0:=decide_eq_false c4
  clear c4
  simp only [Option.some.injEq,Prod.mk.injEq] at H
  obtain ⟨rfl,rfl⟩:=H
  obtain ⟨Ao13,co13,eo13⟩:=Kd.R_slice HO_4.out
  subst eo13
  go_wp2
  repeat (go_quiet (fail);try go_wp2)
  go_ret2
  exact ⟨q74_,q72_⟩
mutual
def spec_l1Dec.l0:Nat → Int → ByteArray → Option (ByteArray)
 | 0,_,_ => none
 | k + 1,x0,x3 => if x0 ≥ 10 then ((some (([(wrap64 (48 + (Int.tmod x0 10))) % 256]:List Int):List Int)).bind fun y270 => (if (strOfNums y270).size + x3.size ≤ 9223372036854775807 then (spec_l1Dec.l0 k (wrap64 (Int.tdiv x0 10)) ((strOfNums y270) ++ x3)) else (none))) else ((some (([(wrap64 (48 + x0)) % 256]:List Int):List Int)).bind fun y273 => (if (strOfNums y273).size + x3.size ≤ 9223372036854775807 then (some ((strOfNums y273) ++ x3)) else (none)))
def spec_l1Dec.f:Nat → Int → Option (ByteArray)
 | 0,_ => none
 | k + 1,a0 => if a0 < 0 then ((spec_l1Dec.f k (wrap64 (-a0))).bind fun t269 => (if 1 + t269.size ≤ 9223372036854775807 then (some ((⟨#[45]⟩:ByteArray) ++ t269)) else (none))) else (spec_l1Dec.l0 k a0 (⟨#[]⟩:ByteArray))
end
theorem spec_l1Dec.mono_l:∀ k,(∀ y0,LeO (spec_l1Dec.f k y0) (spec_l1Dec.f (k + 1) y0)) ∧ (∀ y0 y1,LeO (spec_l1Dec.l0 k y0 y1) (spec_l1Dec.l0 (k + 1) y0 y1))
 | 0 => ⟨fun _ r h => by simp [spec_l1Dec.f] at h,fun _ _ r h => by simp [spec_l1Dec.l0] at h⟩
 | k + 1 => by
  obtain ⟨ih0,ih1⟩:=spec_l1Dec.mono_l k
  refine ⟨?_,?_⟩
  ·intro y0
   unfold spec_l1Dec.f
   repeat' first
   | (with_reducible first | exact ih0 _ | exact ih1 _ _ | exact LeO.refl _ | exact LeO.none _ | refine LeO.ite ?_ ?_ | refine LeO.bind ?_ (fun _ => ?_))
   | exact ih0 _
   | exact ih1 _ _
   | exact LeO.none _
   | refine LeO.ite ?_ ?_
   | refine LeO.bind ?_ (fun _ => ?_)
  intro y0 y1
  unfold spec_l1Dec.l0
  repeat' first
  | (with_reducible first | exact ih0 _ | exact ih1 _ _ | exact LeO.refl _ | exact LeO.none _ | refine LeO.ite ?_ ?_ | refine LeO.bind ?_ (fun _ => ?_))
  | exact ih0 _
  | exact ih1 _ _
  | exact LeO.none _
  | refine LeO.ite ?_ ?_
  | refine LeO.bind ?_ (fun _ => ?_)
theorem spec_l1Dec.mono:∀ a0 k,LeO (spec_l1Dec.f k a0) (spec_l1Dec.f (k + 1) a0):=by
 intro a0 k
 obtain ⟨ih0,ih1⟩:=spec_l1Dec.mono_l k
 exact ih0 a0
theorem spec_l1Dec.calls (k:Nat):∀ (a0:Int) (r:ByteArray) (w:World) (h:spec_l1Dec.f k a0 = some r),
  Calls Tryz.prog 71 #[.int .i64 a0] w fun e w' => e = .returned (.string r) ∧ Below w.heap.size w w':=by
 induction k using Nat.strongRecOn with
 | _ k ih =>
 intro a0 r w h
 cases k with
 | zero => exact absurd h (by simp [spec_l1Dec.f])
 | succ k =>
 simp only [spec_l1Dec.f] at h
 have HB:=Aside0.mk (Below.refl w.heap.size w)
 have H:(if a0 < 0 then ((spec_l1Dec.f k (wrap64 (-a0))).bind fun t269 => (if 1 + t269.size ≤ 9223372036854775807 then (some ((⟨#[45]⟩:ByteArray) ++ t269)) else (none))) else (spec_l1Dec.l0 k a0 (⟨#[]⟩:ByteArray))) = some r:=h
 clear h
 by_cases c2:a0 < 0
 ·rw [if_pos c2] at H
  have c2b0:=decide_eq_true c2
  clear c2
  replace H:=Option.bind_eq_some_iff.mp H
  obtain ⟨t269,A30,H⟩:=H
  have A3:=Aside0.mk A30
  clear A30
  by_cases c4:1 + t269.size ≤ 9223372036854775807
  rotate_left
  ·rw [if_neg c4] at H
   exact absurd H (by simp)
  rw [if_pos c4] at H
  have c4b0:=eq_true c4
  have c4b1:=decide_eq_true c4
  try have c4b2:(9223372036854775807 < 1 + t269.size) = False:=eq_false (Nat.not_lt.2 c4)
  obtain rfl:=Option.some.inj H
  go_enter Tryz.func71,Tryz.ntmps71
  go_wp2_with (first | ((with_reducible refine gate_callee (f:=71) rfl ?_);refine goesL_ (some 8) rfl rfl Tryz.func71 (by kernel_rfl) rfl #[.int .i64 (wrap64 (-a0))] rfl (by (try simp only [List.map_toArray,List.map_cons,List.map_nil]);first | done | rfl | (simp only [List.length_drop,List.length_take];rfl) | (refine Eq.trans (b:=#[.int .i64 ((-a0))]) rfl ?_;simp [wrap64] <;> omega)) ?_;(with_reducible refine (ih k (by omega) (wrap64 (-a0)) t269 _ A3.out).mono ?_);rintro e w5 ⟨rfl,hb⟩;refine ⟨_,rfl,?_⟩;replace HB:=Aside0.mk (below_step q72_ hb);(try clear hb)))
  go_ret
  exact ⟨q74_,q72_⟩
 rw [if_neg c2] at H
 have c2b0:=decide_eq_false c2
 clear c2
 have H':=Aside0.mk H
 clear H
 go_enter Tryz.func71,Tryz.ntmps71
 go_wp2
 go_loopg [0,3] k (fun kq v0 v3 w' => ∃ (x0_1:Int) (x3_1:ByteArray),v0 = .int .i64 x0_1 ∧ v3 = .string x3_1 ∧ Aside0 (spec_l1Dec.l0 kq x0_1 x3_1 = some r) ∧ Aside0 (kq ≤ k) ∧ Aside0 (Below w.heap.size w w'))
 case atStart => exact ⟨(a0),((⟨#[]⟩:ByteArray)),q92_,q92_,H',⟨Nat.le_refl _⟩,⟨q72_⟩⟩
 clear H'
 try clear c2
 try clear c2b0
 try clear p2
 try clear c4
 try clear c4b0
 try clear c4b1
 try clear c4b2
 obtain ⟨x0_1,x3_1,rfl,rfl,HA,HK1,HB⟩:=hrel
 cases gk with
 | zero => exact absurd HA.out (by simp [spec_l1Dec.l0])
 | succ k1 =>
  have H:=HA.out
  clear HA
  simp only [spec_l1Dec.l0] at H
  by_cases c6:x0_1 ≥ 10
  ·rw [if_pos c6] at H
   have c6b0:decide (10 ≤ x0_1) = true:=decide_eq_true c6
   clear c6
   obtain ⟨y270,hy270⟩:∃ y_:List Int,y_ = (([(wrap64 (48 + (Int.tmod x0_1 10))) % 256]:List Int)):=⟨_,rfl⟩
   replace H:(if (strOfNums y270).size + x3_1.size ≤ 9223372036854775807 then (spec_l1Dec.l0 k1 (wrap64 (Int.tdiv x0_1 10)) ((strOfNums y270) ++ x3_1)) else (none)) = some r:=by first | (rw [hy270];exact H) | exact H
   have Ny270:=Aside0.mk hy270
   clear hy270
   by_cases c7:(strOfNums y270).size + x3_1.size ≤ 9223372036854775807
   rotate_left
   ·rw [if_neg c7] at H
    exact absurd H (by simp)
   rw [if_pos c7] at H
   have c7b0:=eq_true c7
   have c7b1:=decide_eq_true c7
   try have c7b2:(9223372036854775807 < (strOfNums y270).size + x3_1.size) = False:=eq_false (Nat.not_lt.2 c7)
   have H':=Aside0.mk H
   clear H
   go_wp2_with (first | ((with_reducible refine gate_dst (N:=16) rfl ?_);refine Kd.R_lit (Kd.int .u8) _ 5 ?hg (N:=16) ?hd (xs:=([(wrap64 (48 + (Int.tmod x0_1 10))) % 256]:List Int)) (inner:=[.int .u8 ((wrap64 (48 + (Int.tmod x0_1 10))) % 256)]) (ok:=fun _ => True) (okp:=fun _ => True) ?hr ?hp (fun _ hk => hk) trivial (Below.refl _ _) (Nat.le_refl _) (by simp) ?_;(case hd => rfl);(case hg => rfl);(case hr => exact q139_);(case hp => exact (Reps.one (show Kd.M (Kd.int .u8) _ _ _ ((wrap64 (48 + (Int.tmod x0_1 10))) % 256) [.int .u8 ((wrap64 (48 + (Int.tmod x0_1 10))) % 256)] from rfl) (Reps.none _ _)));intro v271 w8 ho9 hb hg_ hnew_;clear hg_ hnew_;(first | rw [← Ny270.out] at ho9 | (simp only [Int.reduceToNat] at ho9;rw [← Ny270.out] at ho9));have n0_:=Aside0.mk (Kd.R_lower ho9 (below_size q72_));have n1_:=Aside0.mk (below_step q72_ hb);clear HB;have HO272:=n0_;have HB:=n1_;clear n0_ n1_;clear hb ho9;have hcv10:=own_string (P:=Tryz.prog) Tryz.underlying22 Tryz.underlying5 Tryz.underlying9 (Kd.own_of_R HO272.out);have hcvq10:=fun m_:Nat => own_string (P:=Tryz.prog) Tryz.underlying22 Tryz.underlying5 Tryz.underlying9 (Kd.own_of_R (Kd.R_drewN HO272.out m_))))
   go_roundg k1
   case measure => have:=HK1.out;omega
   case rel => exact ⟨(wrap64 (Int.tdiv x0_1 10)),((strOfNums y270) ++ x3_1),q92_,q92_,H',⟨by have:=HK1.out;omega⟩,⟨q72_⟩⟩
  rw [if_neg c6] at H
  have c6b0:decide (10 ≤ x0_1) = false:=decide_eq_false c6
  clear c6
  obtain ⟨y273,hy273⟩:∃ y_:List Int,y_ = (([(wrap64 (48 + x0_1)) % 256]:List Int)):=⟨_,rfl⟩
  replace H:(if (strOfNums y273).size + x3_1.size ≤ 9223372036854775807 then (some ((strOfNums y273) ++ x3_1)) else (none)) = some r:=by first | (rw [hy273];exact H) | exact H
  have Ny273:=Aside0.mk hy273
  clear hy273
  by_cases c11:(strOfNums y273).size + x3_1.size ≤ 9223372036854775807
  rotate_left
  ·rw [if_neg c11] at H
   exact absurd H (by simp)
  rw [if_pos c11] at H
  have c11b0:=eq_true c11
  have c11b1:=decide_eq_true c11
  try have c11b2:(9223372036854775807 < (strOfNums y273).size + x3_1.size) = False:=eq_false (Nat.not_lt.2 c11)
  obtain rfl:=Option.some.inj H
  go_wp2_with (first | ((with_reducible refine gate_dst (N:=25) rfl ?_);refine Kd.R_lit (Kd.int .u8) _ 5 ?hg (N:=25) ?hd (xs:=([(wrap64 (48 + x0_1)) % 256]:List Int)) (inner:=[.int .u8 ((wrap64 (48 + x0_1)) % 256)]) (ok:=fun _ => True) (okp:=fun _ => True) ?hr ?hp (fun _ hk => hk) trivial (Below.refl _ _) (Nat.le_refl _) (by simp) ?_;(case hd => rfl);(case hg => rfl);(case hr => exact q139_);(case hp => exact (Reps.one (show Kd.M (Kd.int .u8) _ _ _ ((wrap64 (48 + x0_1)) % 256) [.int .u8 ((wrap64 (48 + x0_1)) % 256)] from rfl) (Reps.none _ _)));intro v274 w12 ho13 hb hg_ hnew_;clear hg_ hnew_;(first | rw [← Ny273.out] at ho13 | (simp only [Int.reduceToNat] at ho13;rw [← Ny273.out] at ho13));have n0_:=Aside0.mk (Kd.R_lower ho13 (below_size q72_));have n1_:=Aside0.mk (below_step q72_ hb);clear HB;have HO275:=n0_;have HB:=n1_;clear n0_ n1_;clear hb ho13;have hcv14:=own_string (P:=Tryz.prog) Tryz.underlying22 Tryz.underlying5 Tryz.underlying9 (Kd.own_of_R HO275.out);have hcvq14:=fun m_:Nat => own_string (P:=Tryz.prog) Tryz.underlying22 Tryz.underlying5 Tryz.underlying9 (Kd.own_of_R (Kd.R_drewN HO275.out m_))))
  go_ret
  exact ⟨q74_,q72_⟩
def spec_l3Turns.f :Option (List ByteArray):=some (([(⟨#[114,108,99]⟩:ByteArray),(⟨#[114,114,99]⟩:ByteArray),(⟨#[114,108]⟩:ByteArray),(⟨#[114,114]⟩:ByteArray),(⟨#[115,108,97]⟩:ByteArray),(⟨#[115,114,97]⟩:ByteArray),(⟨#[115,119,97,112]⟩:ByteArray),(⟨#[115,114,108]⟩:ByteArray)]:List ByteArray))
theorem spec_l3Turns.calls  (r:List ByteArray) (w:World) (h:spec_l3Turns.f  = some r) :
  Calls Tryz.prog 99 #[] w fun e w' => ∃ v0_:Value,e = .returned (v0_) ∧ Kd.R Kd.string 9 w' w.heap.size (fun _ => True) v0_ r ∧ Below w.heap.size w w':=by
 have HB:=Aside0.mk (Below.refl w.heap.size w)
 have H:=h;unfold spec_l3Turns.f at H
 clear h
 obtain ⟨y276,hy276⟩:∃ y_:List ByteArray,y_ = (([(⟨#[114,108,99]⟩:ByteArray),(⟨#[114,114,99]⟩:ByteArray),(⟨#[114,108]⟩:ByteArray),(⟨#[114,114]⟩:ByteArray),(⟨#[115,108,97]⟩:ByteArray),(⟨#[115,114,97]⟩:ByteArray),(⟨#[115,119,97,112]⟩:ByteArray),(⟨#[115,114,108]⟩:ByteArray)]:List ByteArray)):=⟨_,rfl⟩
 replace H:(some y276) = some r:=by first | (rw [hy276];exact H) | exact H
 have Ny276:=Aside0.mk hy276
 clear hy276
 obtain rfl:=Option.some.inj H
 go_enter Tryz.func99,Tryz.ntmps99
 go_wp2_with (first | ((with_reducible refine gate_dst (N:=1) rfl ?_);refine Kd.R_lit Kd.string _ 9 ?hg (N:=1) ?hd (xs:=([(⟨#[114,108,99]⟩:ByteArray),(⟨#[114,114,99]⟩:ByteArray),(⟨#[114,108]⟩:ByteArray),(⟨#[114,114]⟩:ByteArray),(⟨#[115,108,97]⟩:ByteArray),(⟨#[115,114,97]⟩:ByteArray),(⟨#[115,119,97,112]⟩:ByteArray),(⟨#[115,114,108]⟩:ByteArray)]:List ByteArray)) (inner:=[.string (⟨#[114,108,99]⟩:ByteArray),.string (⟨#[114,114,99]⟩:ByteArray),.string (⟨#[114,108]⟩:ByteArray),.string (⟨#[114,114]⟩:ByteArray),.string (⟨#[115,108,97]⟩:ByteArray),.string (⟨#[115,114,97]⟩:ByteArray),.string (⟨#[115,119,97,112]⟩:ByteArray),.string (⟨#[115,114,108]⟩:ByteArray)]) (ok:=fun _ => True) (okp:=fun _ => True) ?hr ?hp (fun _ hk => hk) trivial (Below.refl _ _) (Nat.le_refl _) (by simp) ?_;(case hd => rfl);(case hg => rfl);(case hr => exact q139_);(case hp => exact (Reps.one (show Kd.M Kd.string _ _ _ (⟨#[114,108,99]⟩:ByteArray) [.string (⟨#[114,108,99]⟩:ByteArray)] from rfl) (Reps.one (show Kd.M Kd.string _ _ _ (⟨#[114,114,99]⟩:ByteArray) [.string (⟨#[114,114,99]⟩:ByteArray)] from rfl) (Reps.one (show Kd.M Kd.string _ _ _ (⟨#[114,108]⟩:ByteArray) [.string (⟨#[114,108]⟩:ByteArray)] from rfl) (Reps.one (show Kd.M Kd.string _ _ _ (⟨#[114,114]⟩:ByteArray) [.string (⟨#[114,114]⟩:ByteArray)] from rfl) (Reps.one (show Kd.M Kd.string _ _ _ (⟨#[115,108,97]⟩:ByteArray) [.string (⟨#[115,108,97]⟩:ByteArray)] from rfl) (Reps.one (show Kd.M Kd.string _ _ _ (⟨#[115,114,97]⟩:ByteArray) [.string (⟨#[115,114,97]⟩:ByteArray)] from rfl) (Reps.one (show Kd.M Kd.string _ _ _ (⟨#[115,119,97,112]⟩:ByteArray) [.string (⟨#[115,119,97,112]⟩:ByteArray)] from rfl) (Reps.one (show Kd.M Kd.string _ _ _ (⟨#[115,114,108]⟩:ByteArray) [.string (⟨#[115,114,108]⟩:ByteArray)] from rfl) (Reps.none _ _))))))))));intro v277 w1 ho2 hb hg_ hnew_;clear hg_ hnew_;(first | rw [← Ny276.out] at ho2 | (simp only [Int.reduceToNat] at ho2;rw [← Ny276.out] at ho2));have n0_:=Aside0.mk (Kd.R_lower ho2 (below_size q72_));have n1_:=Aside0.mk (below_step q72_ hb);clear HB;have HO278:=n0_;have HB:=n1_;clear n0_ n1_;clear hb ho2))
 go_ret
 exact ⟨_,q74_,by (with_reducible repeat (first | apply Kd.R_alloc | apply Kd.R_drewN | apply Kd.R_drew));exact HO278.out,q72_⟩
def spec_l3Regs.f :Option (List ByteArray):=some (([(⟨#[98]⟩:ByteArray),(⟨#[99]⟩:ByteArray),(⟨#[100]⟩:ByteArray),(⟨#[101]⟩:ByteArray),(⟨#[104]⟩:ByteArray),(⟨#[108]⟩:ByteArray),(⟨#[91,104,108,93]⟩:ByteArray),(⟨#[97]⟩:ByteArray)]:List ByteArray))
theorem spec_l3Regs.calls  (r:List ByteArray) (w:World) (h:spec_l3Regs.f  = some r) :
  Calls Tryz.prog 100 #[] w fun e w' => ∃ v0_:Value,e = .returned (v0_) ∧ Kd.R Kd.string 9 w' w.heap.size (fun _ => True) v0_ r ∧ Below w.heap.size w w':=by
 have HB:=Aside0.mk (Below.refl w.heap.size w)
 have H:=h;unfold spec_l3Regs.f at H
 clear h
 obtain ⟨y279,hy279⟩:∃ y_:List ByteArray,y_ = (([(⟨#[98]⟩:ByteArray),(⟨#[99]⟩:ByteArray),(⟨#[100]⟩:ByteArray),(⟨#[101]⟩:ByteArray),(⟨#[104]⟩:ByteArray),(⟨#[108]⟩:ByteArray),(⟨#[91,104,108,93]⟩:ByteArray),(⟨#[97]⟩:ByteArray)]:List ByteArray)):=⟨_,rfl⟩
 replace H:(some y279) = some r:=by first | (rw [hy279];exact H) | exact H
 have Ny279:=Aside0.mk hy279
 clear hy279
 obtain rfl:=Option.some.inj H
 go_enter Tryz.func100,Tryz.ntmps100
 go_wp2_with (first | ((with_reducible refine gate_dst (N:=1) rfl ?_);refine Kd.R_lit Kd.string _ 9 ?hg (N:=1) ?hd (xs:=([(⟨#[98]⟩:ByteArray),(⟨#[99]⟩:ByteArray),(⟨#[100]⟩:ByteArray),(⟨#[101]⟩:ByteArray),(⟨#[104]⟩:ByteArray),(⟨#[108]⟩:ByteArray),(⟨#[91,104,108,93]⟩:ByteArray),(⟨#[97]⟩:ByteArray)]:List ByteArray)) (inner:=[.string (⟨#[98]⟩:ByteArray),.string (⟨#[99]⟩:ByteArray),.string (⟨#[100]⟩:ByteArray),.string (⟨#[101]⟩:ByteArray),.string (⟨#[104]⟩:ByteArray),.string (⟨#[108]⟩:ByteArray),.string (⟨#[91,104,108,93]⟩:ByteArray),.string (⟨#[97]⟩:ByteArray)]) (ok:=fun _ => True) (okp:=fun _ => True) ?hr ?hp (fun _ hk => hk) trivial (Below.refl _ _) (Nat.le_refl _) (by simp) ?_;(case hd => rfl);(case hg => rfl);(case hr => exact q139_);(case hp => exact (Reps.one (show Kd.M Kd.string _ _ _ (⟨#[98]⟩:ByteArray) [.string (⟨#[98]⟩:ByteArray)] from rfl) (Reps.one (show Kd.M Kd.string _ _ _ (⟨#[99]⟩:ByteArray) [.string (⟨#[99]⟩:ByteArray)] from rfl) (Reps.one (show Kd.M Kd.string _ _ _ (⟨#[100]⟩:ByteArray) [.string (⟨#[100]⟩:ByteArray)] from rfl) (Reps.one (show Kd.M Kd.string _ _ _ (⟨#[101]⟩:ByteArray) [.string (⟨#[101]⟩:ByteArray)] from rfl) (Reps.one (show Kd.M Kd.string _ _ _ (⟨#[104]⟩:ByteArray) [.string (⟨#[104]⟩:ByteArray)] from rfl) (Reps.one (show Kd.M Kd.string _ _ _ (⟨#[108]⟩:ByteArray) [.string (⟨#[108]⟩:ByteArray)] from rfl) (Reps.one (show Kd.M Kd.string _ _ _ (⟨#[91,104,108,93]⟩:ByteArray) [.string (⟨#[91,104,108,93]⟩:ByteArray)] from rfl) (Reps.one (show Kd.M Kd.string _ _ _ (⟨#[97]⟩:ByteArray) [.string (⟨#[97]⟩:ByteArray)] from rfl) (Reps.none _ _))))))))));intro v280 w1 ho2 hb hg_ hnew_;clear hg_ hnew_;(first | rw [← Ny279.out] at ho2 | (simp only [Int.reduceToNat] at ho2;rw [← Ny279.out] at ho2));have n0_:=Aside0.mk (Kd.R_lower ho2 (below_size q72_));have n1_:=Aside0.mk (below_step q72_ hb);clear HB;have HO281:=n0_;have HB:=n1_;clear n0_ n1_;clear hb ho2))
 go_ret
 exact ⟨_,q74_,by (with_reducible repeat (first | apply Kd.R_alloc | apply Kd.R_drewN | apply Kd.R_drew));exact HO281.out,q72_⟩
end Go.Proofs.YtodlnnoekccmmaaGreatDoor.QFnInsTexts
