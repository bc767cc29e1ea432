/- The machine's side of a law,written by a program of this session for this claim. -/
import Derived.Test.YtodlnnoekccmmaaGreatDoorYQq
import Derived.Test.YtodlnnoekccmmaaGreatDoorYQFnExactListedx0
import Derived.Test.YtodlnnoekccmmaaGreatDoorYQFnExactListedx9
import Derived.Test.YtodlnnoekccmmaaGreatDoorYQFnExactListedx12
import Derived.Test.YtodlnnoekccmmaaGreatDoorYQFnExactListedx14
namespace Go.Proofs.YtodlnnoekccmmaaGreatDoor.QFnExactListed
open Go.Proofs.YtodlnnoekccmmaaGreatDoor.Qq
open Go.RowKit Go.Proofs.YtodlnnoekccmmaaGreatDoor.LibX Go.Proofs.YtodlnnoekccmmaaGreatDoor.LibE Go.Proofs.YtodlnnoekccmmaaGreatDoorW.PrintWords Go.Proofs.YtodlnnoekccmmaaGreatDoorW.PrintLast Go.Proofs.YtodlnnoekccmmaaGreatDoorW.PrintMore
attribute [local go_sem] max2_int min2_int max_two min_two max_three min_three max_four min_four   -- for this text's walks alone
set_option maxHeartbeats 8000000
set_option maxRecDepth 100000
set_option linter.unusedVariables false
set_option linter.unusedSimpArgs false
def impl_holeOf.l0:Nat → ByteArray → List ByteArray → Int → Int → Option (ByteArray)
 | 0,_,_,_,_ => none
 | k + 1,x0,x5,x6,x7 => if x7 < x6 then (if 0 ≤ x7 then (if x7 < (x5.length:Int) then ((strings_Contains.f x0 (rdOf ByteArray.empty x5 x7)).bind fun t466 => (if t466 = true then (some (rdOf ByteArray.empty x5 x7)) else (impl_holeOf.l0 k x0 x5 x6 (wrap64 (x7 + 1))))) else (none)) else (none)) else (some (⟨#[]⟩:ByteArray))
def impl_holeOf.f (k:Nat) (a0:ByteArray):Option (ByteArray):=(impl_names.f (⟨#[110,49,54,32,110,56,32,101,56]⟩:ByteArray)).bind fun t462 => (impl_holeOf.l0 k a0 t462 (t462.length:Int) 0)
theorem impl_holeOf.mono_l:∀ k,(∀ y0 y1 y2 y3,LeO (impl_holeOf.l0 k y0 y1 y2 y3) (impl_holeOf.l0 (k + 1) y0 y1 y2 y3))
 | 0 => fun _ _ _ _ r h => by simp [impl_holeOf.l0] at h
 | k + 1 => by
  have ih0:=impl_holeOf.mono_l k
  intro y0 y1 y2 y3
  unfold impl_holeOf.l0
  repeat' first
  | (with_reducible first | exact ih0 _ _ _ _ | exact LeO.refl _ | exact LeO.none _ | refine LeO.ite ?_ ?_ | refine LeO.bind ?_ (fun _ => ?_))
  | exact ih0 _ _ _ _
  | exact LeO.none _
  | refine LeO.ite ?_ ?_
  | refine LeO.bind ?_ (fun _ => ?_)
theorem impl_holeOf.mono:∀ a0 k,LeO (impl_holeOf.f k a0) (impl_holeOf.f (k + 1) a0):=by
 intro a0 k
 have ih0:=impl_holeOf.mono_l k
 unfold impl_holeOf.f
 repeat' first
   | (with_reducible first | exact ih0 _ _ _ _ | exact LeO.refl _ | exact LeO.none _ | refine LeO.ite ?_ ?_ | refine LeO.bind ?_ (fun _ => ?_))
   | exact ih0 _ _ _ _
   | exact LeO.none _
   | refine LeO.ite ?_ ?_
   | refine LeO.bind ?_ (fun _ => ?_)
theorem impl_holeOf.calls (k:Nat) (a0:ByteArray) (r:ByteArray) (w:World) (h:impl_holeOf.f k a0 = some r) (hG:Go.Proofs.YtodlnnoekccmmaaGreatDoor.LibW.GL w:=by first | exact hG | exact hG.below q4_ | exact hG.drewN _) :
  Calls Tryz.prog 47 #[.string a0] w fun e w' => e = .returned (.string r) ∧ Below w.heap.size w w':=by
 have HB:=Aside0.mk (Below.refl w.heap.size w)
 have H:((impl_names.f (⟨#[110,49,54,32,110,56,32,101,56]⟩:ByteArray)).bind fun t462 => (impl_holeOf.l0 k a0 t462 (t462.length:Int) 0)) = some r:=h
 clear h
 replace H:=Option.bind_eq_some_iff.mp H
 obtain ⟨t462,A20,H⟩:=H
 have A2:=Aside0.mk A20
 clear A20
 have H':=Aside0.mk H
 clear H
 go_enter Tryz.func47,Tryz.ntmps47
 go_wp2_with (first | ((with_reducible refine gate_callee (f:=97) rfl ?_);refine goesL_ (some 5) rfl rfl Tryz.func97 (by kernel_rfl) rfl #[.string (⟨#[110,49,54,32,110,56,32,101,56]⟩:ByteArray)] rfl q46_ ?_;(with_reducible refine (impl_names.calls (⟨#[110,49,54,32,110,56,32,101,56]⟩:ByteArray) t462 _ A2.out).mono ?_);rintro e w3 ⟨v463,rfl,ho0,hb⟩;refine ⟨_,rfl,?_⟩;have n0_:=Aside0.mk (Kd.R_lower ho0 (below_size q50_));have n1_:=Aside0.mk (below_step q50_ hb);clear HB;have HO464:=n0_;have HB:=n1_;clear n0_ n1_;(try clear hb);(try clear ho0);obtain ⟨Ao4,co4,eo4⟩:=Kd.R_slice HO464.out;subst eo4))
 go_loopg [7] k (fun kq v7 w' => ∃ (x7_1:Int),v7 = .int .i64 x7_1 ∧ Aside0 (impl_holeOf.l0 kq a0 t462 (t462.length:Int) x7_1 = some r) ∧ Aside0 (kq ≤ k) ∧ Aside0 (Kd.R Kd.string 9 w' w.heap.size (fun _ => True) (.slice Ao4 t462.length co4) t462) ∧ Aside0 (Below w.heap.size w w'))
 case atStart => exact ⟨(0),q69_,H',⟨Nat.le_refl _⟩,⟨by (with_reducible repeat (first | apply Kd.R_alloc | apply Kd.R_drewN | apply Kd.R_drew));exact HO464.out⟩,⟨q50_⟩⟩
 clear H'
 try clear p2
 try clear c4
 obtain ⟨x7_1,rfl,HA,HK1,HO_5,HB⟩:=hrel
 cases gk with
 | zero => exact absurd HA.out (by simp [impl_holeOf.l0])
 | succ k1 =>
  have H:=HA.out
  clear HA
  simp only [impl_holeOf.l0] at H
  by_cases c5:x7_1 < (t462.length:Int)
  ·rw [if_pos c5] at H
   have c5b0:decide (x7_1 < (t462.length:Int)) = true:=decide_eq_true c5
   clear c5
   by_cases c6:0 ≤ x7_1
   rotate_left
   ·rw [if_neg c6] at H
    exact absurd H (by simp)
   rw [if_pos c6] at H
   have c6b0:decide (0 ≤ x7_1) = true:=decide_eq_true c6
   clear c6
   by_cases c7:x7_1 < (t462.length:Int)
   rotate_left
   ·rw [if_neg c7] at H
    exact absurd H (by simp)
   rw [if_pos c7] at H
   have c7b0:decide (x7_1 < (t462.length:Int)) = true:=decide_eq_true c7
   clear c7
   replace H:=Option.bind_eq_some_iff.mp H
   obtain ⟨t466,A80,H⟩:=H
   have A8:=Aside0.mk A80
   clear A80
   by_cases c9:t466 = true
   ·subst c9
    replace H:(some (rdOf ByteArray.empty t462 x7_1)) = some r:=by rw [if_pos rfl] at H;exact H
    obtain rfl:=Option.some.inj H
    have p465:0 ≤ (x7_1:Int):=of_decide_eq_true q86_
    have q465:x7_1 < (t462.length:Int):=of_decide_eq_true q86_
    obtain ⟨ad465,e465,hx465_0⟩:=Kd.at_string (Kd.R_reads' HO_5.out).2.2 x7_1 p465 q465
    cases e465
    replace p465:=eq_true p465
    replace q465:=eq_true q465
    go_wp2_with (first | ((with_reducible refine gate_callee (f:=98) rfl ?_);refine goesL_ (some 13) rfl rfl Tryz.func98 (by kernel_rfl) rfl #[.string a0,.string (rdOf ByteArray.empty t462 x7_1)] rfl q46_ ?_;(with_reducible refine (strings_Contains.calls a0 (rdOf ByteArray.empty t462 x7_1) true _ A8.out).mono ?_);rintro e w' ⟨rfl,⟨nd,rfl⟩⟩;refine ⟨_,rfl,?_⟩))
    go_ret
    exact ⟨q53_,q50_⟩
   replace c9:=Bool.eq_false_iff.mpr c9
   subst c9
   replace H:(impl_holeOf.l0 k1 a0 t462 (t462.length:Int) (wrap64 (x7_1 + 1))) = some r:=by rw [if_neg (show ¬ (false = true) by decide)] at H;exact H
   have H':=Aside0.mk H
   clear H
   have p465:0 ≤ (x7_1:Int):=of_decide_eq_true q86_
   have q465:x7_1 < (t462.length:Int):=of_decide_eq_true q86_
   obtain ⟨ad465,e465,hx465_0⟩:=Kd.at_string (Kd.R_reads' HO_5.out).2.2 x7_1 p465 q465
   cases e465
   replace p465:=eq_true p465
   replace q465:=eq_true q465
   go_wp2_with (first | ((with_reducible refine gate_callee (f:=98) rfl ?_);refine goesL_ (some 13) rfl rfl Tryz.func98 (by kernel_rfl) rfl #[.string a0,.string (rdOf ByteArray.empty t462 x7_1)] rfl q46_ ?_;(with_reducible refine (strings_Contains.calls a0 (rdOf ByteArray.empty t462 x7_1) false _ A8.out).mono ?_);rintro e w' ⟨rfl,⟨nd,rfl⟩⟩;refine ⟨_,rfl,?_⟩))
   go_roundg k1
   case measure => have:=HK1.out;omega
   case rel => exact ⟨(wrap64 (x7_1 + 1)),q69_,H',⟨by have:=HK1.out;omega⟩,⟨q82_⟩,⟨q50_⟩⟩
  rw [if_neg c5] at H
  have c5b0:decide (x7_1 < (t462.length:Int)) = false:=decide_eq_false c5
  clear c5
  obtain rfl:=Option.some.inj H
  go_wp2
  go_ret
  exact ⟨q53_,q50_⟩
def impl_InsOk.f (k:Nat) (a0_0:Int) (a0_1:Bool) (a0_2:Int):Option (Bool):=(impl_TemplateOf.f k a0_0 a0_1).bind fun t468 => (if t468.toList = ([]:List UInt8) then (some false) else ((impl_holeOf.f k t468).bind fun t469 => (if t469.toList = ([]:List UInt8) then (some (a0_2 == 0)) else (if t469.toList = ([110,49,54]:List UInt8) then ((impl_isWord.f a0_2).bind fun t470 => (some t470)) else ((impl_isByte.f a0_2).bind fun t471 => (some t471))))))
theorem impl_InsOk.mono:∀ a0 a1 a2 k,LeO (impl_InsOk.f k a0 a1 a2) (impl_InsOk.f (k + 1) a0 a1 a2):=by
 intro a0 a1 a2 k
 unfold impl_InsOk.f
 repeat' first
   | (with_reducible first | exact impl_TemplateOf.mono _ _ _ | exact impl_holeOf.mono _ _ | exact LeO.refl _ | exact LeO.none _ | refine LeO.ite ?_ ?_ | refine LeO.bind ?_ (fun _ => ?_))
   | exact impl_TemplateOf.mono _ _ _
   | exact impl_holeOf.mono _ _
   | exact LeO.none _
   | refine LeO.ite ?_ ?_
   | refine LeO.bind ?_ (fun _ => ?_)
theorem impl_InsOk.calls (k:Nat) (a0_0:Int) (a0_1:Bool) (a0_2:Int) (r:Bool) (w:World) (h:impl_InsOk.f k a0_0 a0_1 a0_2 = some r) (hG:Go.Proofs.YtodlnnoekccmmaaGreatDoor.LibW.GL w:=by first | exact hG | exact hG.below q4_ | exact hG.drewN _) :
  Calls Tryz.prog 20 #[.agg #[.int .i64 a0_0,.bool a0_1,.int .i64 a0_2]] w fun e w' => e = .returned (.bool r) ∧ Below w.heap.size w w':=by
 have hu30:=Tryz.underlying30
 have HB:=Aside0.mk (Below.refl w.heap.size w)
 have H:((impl_TemplateOf.f k a0_0 a0_1).bind fun t468 => (if t468.toList = ([]:List UInt8) then (some false) else ((impl_holeOf.f k t468).bind fun t469 => (if t469.toList = ([]:List UInt8) then (some (a0_2 == 0)) else (if t469.toList = ([110,49,54]:List UInt8) then ((impl_isWord.f a0_2).bind fun t470 => (some t470)) else ((impl_isByte.f a0_2).bind fun t471 => (some t471))))))) = some r:=h
 clear h
 replace H:=Option.bind_eq_some_iff.mp H
 obtain ⟨t468,A20,H⟩:=H
 have A2:=Aside0.mk A20
 clear A20
 by_cases c3:t468.toList = ([]:List UInt8)
 ·rw [if_pos c3] at H
  have c3b0:(t468.toList == ([]:List UInt8)) = true:=beq_iff_eq.mpr c3
  have c3b1:(t468.toList != ([]:List UInt8)) = false:=bne_eq_false_iff_eq.mpr c3
  clear c3
  obtain rfl:=Option.some.inj H
  go_enter Tryz.func20,Tryz.ntmps20
  go_wp2_with (first | ((with_reducible refine gate_dst (N:=1) rfl ?_);refine box_event ?hg (N:=1) ?hd (cs:=#[.int .i64 a0_0,.bool a0_1,.int .i64 a0_2]) (t:=30) ?hr ?_;(case hd => rfl);(case hg => rfl);(case hr => exact q114_);intro gb467 hg w4 hbox hb;have n0_:=Aside0.mk (below_step q50_ hb);have n1_:=Aside0.mk (hbox);have n2_:=Aside0.mk ((q28_:w.heap.size ≤ gb467));have n3_:=Aside0.mk ((q28_:w.heap.size ≤ gb467));clear HB;have HB:=n0_;have BK467:=n1_;have GW467:=n2_;have GE467:=n3_;clear n0_ n1_ n2_ n3_;clear hb hbox hg;have hcz5_0:w4.cell? ⟨gb467,0,none⟩ = some (.int .i64 a0_0):=(blk_cell BK467.out 0).trans rfl;have hcz5_1:w4.cell? ⟨gb467,1,none⟩ = some (.bool a0_1):=(blk_cell BK467.out 1).trans rfl;have hcz5_2:w4.cell? ⟨gb467,2,none⟩ = some (.int .i64 a0_2):=(blk_cell BK467.out 2).trans rfl;have hfz5_0:=blk_frozen BK467.out 0;have hfz5_1:=blk_frozen BK467.out 1;have hfz5_2:=blk_frozen BK467.out 2) | ((with_reducible refine gate_callee (f:=46) rfl ?_);refine goesL_ (some 8) rfl rfl Tryz.func46 (by kernel_rfl) rfl #[.int .i64 a0_0,.bool a0_1] rfl q46_ ?_;(with_reducible refine (impl_TemplateOf.calls k a0_0 a0_1 t468 _ A2.out).mono ?_);rintro e w6 ⟨rfl,hb⟩;refine ⟨_,rfl,?_⟩;have n0_:=Aside0.mk (blk_below (g:=gb467) (o:=.cells #[.int .i64 a0_0,.bool a0_1,.int .i64 a0_2] 30 (0,0)) q60_ hb);have n1_:=Aside0.mk (below_step q34_ hb);clear BK467;clear HB;have BK467:=n0_;have HB:=n1_;clear n0_ n1_;(try clear hb)))
  go_ret
  exact ⟨q53_,q34_⟩
 rw [if_neg c3] at H
 have c3b0:(t468.toList == ([]:List UInt8)) = false:=beq_eq_false_iff_ne.mpr c3
 have c3b1:(t468.toList != ([]:List UInt8)) = true:=bne_iff_ne.mpr c3
 replace H:=Option.bind_eq_some_iff.mp H
 obtain ⟨t469,A70,H⟩:=H
 have A7:=Aside0.mk A70
 clear A70
 by_cases c8:t469.toList = ([]:List UInt8)
 ·rw [if_pos c8] at H
  have c8b0:(t469.toList == ([]:List UInt8)) = true:=beq_iff_eq.mpr c8
  have c8b1:(t469.toList != ([]:List UInt8)) = false:=bne_eq_false_iff_eq.mpr c8
  clear c8
  obtain rfl:=Option.some.inj H
  go_enter Tryz.func20,Tryz.ntmps20
  go_wp2_with (first | ((with_reducible refine gate_dst (N:=1) rfl ?_);refine box_event ?hg (N:=1) ?hd (cs:=#[.int .i64 a0_0,.bool a0_1,.int .i64 a0_2]) (t:=30) ?hr ?_;(case hd => rfl);(case hg => rfl);(case hr => exact q114_);intro gb467 hg w9 hbox hb;have n0_:=Aside0.mk (below_step q50_ hb);have n1_:=Aside0.mk (hbox);have n2_:=Aside0.mk ((q28_:w.heap.size ≤ gb467));have n3_:=Aside0.mk ((q28_:w.heap.size ≤ gb467));clear HB;have HB:=n0_;have BK467:=n1_;have GW467:=n2_;have GE467:=n3_;clear n0_ n1_ n2_ n3_;clear hb hbox hg;have hcz10_0:w9.cell? ⟨gb467,0,none⟩ = some (.int .i64 a0_0):=(blk_cell BK467.out 0).trans rfl;have hcz10_1:w9.cell? ⟨gb467,1,none⟩ = some (.bool a0_1):=(blk_cell BK467.out 1).trans rfl;have hcz10_2:w9.cell? ⟨gb467,2,none⟩ = some (.int .i64 a0_2):=(blk_cell BK467.out 2).trans rfl;have hfz10_0:=blk_frozen BK467.out 0;have hfz10_1:=blk_frozen BK467.out 1;have hfz10_2:=blk_frozen BK467.out 2) | ((with_reducible refine gate_callee (f:=46) rfl ?_);refine goesL_ (some 8) rfl rfl Tryz.func46 (by kernel_rfl) rfl #[.int .i64 a0_0,.bool a0_1] rfl q46_ ?_;(with_reducible refine (impl_TemplateOf.calls k a0_0 a0_1 t468 _ A2.out).mono ?_);rintro e w11 ⟨rfl,hb⟩;refine ⟨_,rfl,?_⟩;have n0_:=Aside0.mk (blk_below (g:=gb467) (o:=.cells #[.int .i64 a0_0,.bool a0_1,.int .i64 a0_2] 30 (0,0)) q60_ hb);have n1_:=Aside0.mk (below_step q34_ hb);clear BK467;clear HB;have BK467:=n0_;have HB:=n1_;clear n0_ n1_;(try clear hb)) | ((with_reducible refine gate_callee (f:=47) rfl ?_);refine goesL_ (some 12) rfl rfl Tryz.func47 (by kernel_rfl) rfl #[.string t468] rfl q46_ ?_;(with_reducible refine (impl_holeOf.calls k t468 t469 _ A7.out).mono ?_);rintro e w12 ⟨rfl,hb⟩;refine ⟨_,rfl,?_⟩;have n0_:=Aside0.mk (blk_below (g:=gb467) (o:=.cells #[.int .i64 a0_0,.bool a0_1,.int .i64 a0_2] 30 (0,0)) q60_ hb);have n1_:=Aside0.mk (below_step q34_ hb);clear BK467;clear HB;have BK467:=n0_;have HB:=n1_;clear n0_ n1_;(try clear hb);have hcz13_0:w12.cell? ⟨gb467,0,none⟩ = some (.int .i64 a0_0):=(blk_cell BK467.out 0).trans rfl;have hcz13_1:w12.cell? ⟨gb467,1,none⟩ = some (.bool a0_1):=(blk_cell BK467.out 1).trans rfl;have hcz13_2:w12.cell? ⟨gb467,2,none⟩ = some (.int .i64 a0_2):=(blk_cell BK467.out 2).trans rfl;have hfz13_0:=blk_frozen BK467.out 0;have hfz13_1:=blk_frozen BK467.out 1;have hfz13_2:=blk_frozen BK467.out 2))
  go_ret
  exact ⟨q53_,q34_⟩
 rw [if_neg c8] at H
 have c8b0:(t469.toList == ([]:List UInt8)) = false:=beq_eq_false_iff_ne.mpr c8
 have c8b1:(t469.toList != ([]:List UInt8)) = true:=bne_iff_ne.mpr c8
 by_cases c14:t469.toList = ([110,49,54]:List UInt8)
 ·rw [if_pos c14] at H
  have c14b0:(t469.toList == ([110,49,54]:List UInt8)) = true:=beq_iff_eq.mpr c14
  have c14b1:(t469.toList != ([110,49,54]:List UInt8)) = false:=bne_eq_false_iff_eq.mpr c14
  clear c14
  replace H:=Option.bind_eq_some_iff.mp H
  obtain ⟨t470,A150,H⟩:=H
  have A15:=Aside0.mk A150
  clear A150
  obtain rfl:=Option.some.inj H
  go_enter Tryz.func20,Tryz.ntmps20
  go_wp2_with (first | ((with_reducible refine gate_dst (N:=1) rfl ?_);refine box_event ?hg (N:=1) ?hd (cs:=#[.int .i64 a0_0,.bool a0_1,.int .i64 a0_2]) (t:=30) ?hr ?_;(case hd => rfl);(case hg => rfl);(case hr => exact q114_);intro gb467 hg w16 hbox hb;have n0_:=Aside0.mk (below_step q50_ hb);have n1_:=Aside0.mk (hbox);have n2_:=Aside0.mk ((q28_:w.heap.size ≤ gb467));have n3_:=Aside0.mk ((q28_:w.heap.size ≤ gb467));clear HB;have HB:=n0_;have BK467:=n1_;have GW467:=n2_;have GE467:=n3_;clear n0_ n1_ n2_ n3_;clear hb hbox hg;have hcz17_0:w16.cell? ⟨gb467,0,none⟩ = some (.int .i64 a0_0):=(blk_cell BK467.out 0).trans rfl;have hcz17_1:w16.cell? ⟨gb467,1,none⟩ = some (.bool a0_1):=(blk_cell BK467.out 1).trans rfl;have hcz17_2:w16.cell? ⟨gb467,2,none⟩ = some (.int .i64 a0_2):=(blk_cell BK467.out 2).trans rfl;have hfz17_0:=blk_frozen BK467.out 0;have hfz17_1:=blk_frozen BK467.out 1;have hfz17_2:=blk_frozen BK467.out 2) | ((with_reducible refine gate_callee (f:=46) rfl ?_);refine goesL_ (some 8) rfl rfl Tryz.func46 (by kernel_rfl) rfl #[.int .i64 a0_0,.bool a0_1] rfl q46_ ?_;(with_reducible refine (impl_TemplateOf.calls k a0_0 a0_1 t468 _ A2.out).mono ?_);rintro e w18 ⟨rfl,hb⟩;refine ⟨_,rfl,?_⟩;have n0_:=Aside0.mk (blk_below (g:=gb467) (o:=.cells #[.int .i64 a0_0,.bool a0_1,.int .i64 a0_2] 30 (0,0)) q60_ hb);have n1_:=Aside0.mk (below_step q34_ hb);clear BK467;clear HB;have BK467:=n0_;have HB:=n1_;clear n0_ n1_;(try clear hb)) | ((with_reducible refine gate_callee (f:=47) rfl ?_);refine goesL_ (some 12) rfl rfl Tryz.func47 (by kernel_rfl) rfl #[.string t468] rfl q46_ ?_;(with_reducible refine (impl_holeOf.calls k t468 t469 _ A7.out).mono ?_);rintro e w19 ⟨rfl,hb⟩;refine ⟨_,rfl,?_⟩;have n0_:=Aside0.mk (blk_below (g:=gb467) (o:=.cells #[.int .i64 a0_0,.bool a0_1,.int .i64 a0_2] 30 (0,0)) q60_ hb);have n1_:=Aside0.mk (below_step q34_ hb);clear BK467;clear HB;have BK467:=n0_;have HB:=n1_;clear n0_ n1_;(try clear hb);have hcz20_0:w19.cell? ⟨gb467,0,none⟩ = some (.int .i64 a0_0):=(blk_cell BK467.out 0).trans rfl;have hcz20_1:w19.cell? ⟨gb467,1,none⟩ = some (.bool a0_1):=(blk_cell BK467.out 1).trans rfl;have hcz20_2:w19.cell? ⟨gb467,2,none⟩ = some (.int .i64 a0_2):=(blk_cell BK467.out 2).trans rfl;have hfz20_0:=blk_frozen BK467.out 0;have hfz20_1:=blk_frozen BK467.out 1;have hfz20_2:=blk_frozen BK467.out 2) | ((with_reducible refine gate_callee (f:=57) rfl ?_);refine goesL_ (some 22) rfl rfl Tryz.func57 (by kernel_rfl) rfl #[.int .i64 a0_2] rfl q46_ ?_;(with_reducible refine (impl_isWord.calls a0_2 t470 _ A15.out).mono ?_);rintro e w' ⟨rfl,⟨nd,rfl⟩⟩;refine ⟨_,rfl,?_⟩))
  go_ret
  exact ⟨q53_,q34_⟩
 rw [if_neg c14] at H
 have c14b0:(t469.toList == ([110,49,54]:List UInt8)) = false:=beq_eq_false_iff_ne.mpr c14
 have c14b1:(t469.toList != ([110,49,54]:List UInt8)) = true:=bne_iff_ne.mpr c14
 replace H:=Option.bind_eq_some_iff.mp H
 obtain ⟨t471,A210,H⟩:=H
 have A21:=Aside0.mk A210
 clear A210
 obtain rfl:=Option.some.inj H
 go_enter Tryz.func20,Tryz.ntmps20
 go_wp2_with (first | ((with_reducible refine gate_dst (N:=1) rfl ?_);refine box_event ?hg (N:=1) ?hd (cs:=#[.int .i64 a0_0,.bool a0_1,.int .i64 a0_2]) (t:=30) ?hr ?_;(case hd => rfl);(case hg => rfl);(case hr => exact q114_);intro gb467 hg w22 hbox hb;have n0_:=Aside0.mk (below_step q50_ hb);have n1_:=Aside0.mk (hbox);have n2_:=Aside0.mk ((q28_:w.heap.size ≤ gb467));have n3_:=Aside0.mk ((q28_:w.heap.size ≤ gb467));clear HB;have HB:=n0_;have BK467:=n1_;have GW467:=n2_;have GE467:=n3_;clear n0_ n1_ n2_ n3_;clear hb hbox hg;have hcz23_0:w22.cell? ⟨gb467,0,none⟩ = some (.int .i64 a0_0):=(blk_cell BK467.out 0).trans rfl;have hcz23_1:w22.cell? ⟨gb467,1,none⟩ = some (.bool a0_1):=(blk_cell BK467.out 1).trans rfl;have hcz23_2:w22.cell? ⟨gb467,2,none⟩ = some (.int .i64 a0_2):=(blk_cell BK467.out 2).trans rfl;have hfz23_0:=blk_frozen BK467.out 0;have hfz23_1:=blk_frozen BK467.out 1;have hfz23_2:=blk_frozen BK467.out 2) | ((with_reducible refine gate_callee (f:=46) rfl ?_);refine goesL_ (some 8) rfl rfl Tryz.func46 (by kernel_rfl) rfl #[.int .i64 a0_0,.bool a0_1] rfl q46_ ?_;(with_reducible refine (impl_TemplateOf.calls k a0_0 a0_1 t468 _ A2.out).mono ?_);rintro e w24 ⟨rfl,hb⟩;refine ⟨_,rfl,?_⟩;have n0_:=Aside0.mk (blk_below (g:=gb467) (o:=.cells #[.int .i64 a0_0,.bool a0_1,.int .i64 a0_2] 30 (0,0)) q60_ hb);have n1_:=Aside0.mk (below_step q34_ hb);clear BK467;clear HB;have BK467:=n0_;have HB:=n1_;clear n0_ n1_;(try clear hb)) | ((with_reducible refine gate_callee (f:=47) rfl ?_);refine goesL_ (some 12) rfl rfl Tryz.func47 (by kernel_rfl) rfl #[.string t468] rfl q46_ ?_;(with_reducible refine (impl_holeOf.calls k t468 t469 _ A7.out).mono ?_);rintro e w25 ⟨rfl,hb⟩;refine ⟨_,rfl,?_⟩;have n0_:=Aside0.mk (blk_below (g:=gb467) (o:=.cells #[.int .i64 a0_0,.bool a0_1,.int .i64 a0_2] 30 (0,0)) q60_ hb);have n1_:=Aside0.mk (below_step q34_ hb);clear BK467;clear HB;have BK467:=n0_;have HB:=n1_;clear n0_ n1_;(try clear hb);have hcz26_0:w25.cell? ⟨gb467,0,none⟩ = some (.int .i64 a0_0):=(blk_cell BK467.out 0).trans rfl;have hcz26_1:w25.cell? ⟨gb467,1,none⟩ = some (.bool a0_1):=(blk_cell BK467.out 1).trans rfl;have hcz26_2:w25.cell? ⟨gb467,2,none⟩ = some (.int .i64 a0_2):=(blk_cell BK467.out 2).trans rfl;have hfz26_0:=blk_frozen BK467.out 0;have hfz26_1:=blk_frozen BK467.out 1;have hfz26_2:=blk_frozen BK467.out 2) | ((with_reducible refine gate_callee (f:=58) rfl ?_);refine goesL_ (some 25) rfl rfl Tryz.func58 (by kernel_rfl) rfl #[.int .i64 a0_2] rfl q46_ ?_;(with_reducible refine (impl_isByte.calls a0_2 t471 _ A21.out).mono ?_);rintro e w' ⟨rfl,⟨nd,rfl⟩⟩;refine ⟨_,rfl,?_⟩))
 go_ret
 exact ⟨q53_,q34_⟩
def impl_SignedOf.f (a0:Int):Option (Int):=(impl_isByte.f a0).bind fun t472 => (if t472 = true then (if a0 > 127 then (some (wrap64 (a0 - 256))) else (some a0)) else (some 0))
theorem impl_SignedOf.calls (a0:Int) (r:Int) (w:World) (h:impl_SignedOf.f a0 = some r) :
  Calls Tryz.prog 113 #[.int .i64 a0] w fun e w' => e = .returned (.int .i64 r) ∧ Drawn0 w w':=by
 have H:((impl_isByte.f a0).bind fun t472 => (if t472 = true then (if a0 > 127 then (some (wrap64 (a0 - 256))) else (some a0)) else (some 0))) = some r:=h
 clear h
 replace H:=Option.bind_eq_some_iff.mp H
 obtain ⟨t472,A20,H⟩:=H
 have A2:=Aside0.mk A20
 clear A20
 by_cases c3:t472 = true
 ·subst c3
  replace H:(if a0 > 127 then (some (wrap64 (a0 - 256))) else (some a0)) = some r:=by rw [if_pos rfl] at H;exact H
  by_cases c4:a0 > 127
  ·rw [if_pos c4] at H
   have c4b0:decide (127 < a0) = true:=decide_eq_true c4
   clear c4
   obtain rfl:=Option.some.inj H
   go_enter Tryz.func113,Tryz.ntmps113
   go_wp2_with (first | ((with_reducible refine gate_callee (f:=58) rfl ?_);refine goesL_ (some 5) rfl rfl Tryz.func58 (by kernel_rfl) rfl #[.int .i64 a0] rfl q46_ ?_;(with_reducible refine (impl_isByte.calls a0 true _ A2.out).mono ?_);rintro e w' ⟨rfl,⟨nd,rfl⟩⟩;refine ⟨_,rfl,?_⟩))
   go_ret
   exact ⟨q69_,q85_⟩
  rw [if_neg c4] at H
  have c4b0:decide (127 < a0) = false:=decide_eq_false c4
  clear c4
  obtain rfl:=Option.some.inj H
  go_enter Tryz.func113,Tryz.ntmps113
  go_wp2_with (first | ((with_reducible refine gate_callee (f:=58) rfl ?_);refine goesL_ (some 5) rfl rfl Tryz.func58 (by kernel_rfl) rfl #[.int .i64 a0] rfl q46_ ?_;(with_reducible refine (impl_isByte.calls a0 true _ A2.out).mono ?_);rintro e w' ⟨rfl,⟨nd,rfl⟩⟩;refine ⟨_,rfl,?_⟩))
  go_ret
  exact ⟨q69_,q85_⟩
 replace c3:=Bool.eq_false_iff.mpr c3
 subst c3
 replace H:(some 0) = some r:=by rw [if_neg (show ¬ (false = true) by decide)] at H;exact H
 obtain rfl:=Option.some.inj H
 go_enter Tryz.func113,Tryz.ntmps113
 go_wp2_with (first | ((with_reducible refine gate_callee (f:=58) rfl ?_);refine goesL_ (some 5) rfl rfl Tryz.func58 (by kernel_rfl) rfl #[.int .i64 a0] rfl q46_ ?_;(with_reducible refine (impl_isByte.calls a0 false _ A2.out).mono ?_);rintro e w' ⟨rfl,⟨nd,rfl⟩⟩;refine ⟨_,rfl,?_⟩))
 go_ret
 exact ⟨q69_,q85_⟩
def impl_filling.f (k:Nat) (a0:ByteArray) (a1:Int):Option (ByteArray):=if a0.toList = ([110,56]:List UInt8) then ((impl_HexOf.f k a1 2).bind fun t473 => (some t473)) else (if a0.toList = ([110,49,54]:List UInt8) then ((impl_HexOf.f k a1 4).bind fun t474 => (some t474)) else ((impl_SignedOf.f a1).bind fun t475 => ((impl_decimal.f t475).bind fun t476 => (some t476))))
theorem impl_filling.mono:∀ a0 a1 k,LeO (impl_filling.f k a0 a1) (impl_filling.f (k + 1) a0 a1):=by
 intro a0 a1 k
 unfold impl_filling.f
 repeat' first
   | (with_reducible first | exact impl_HexOf.mono _ _ _ | exact LeO.refl _ | exact LeO.none _ | refine LeO.ite ?_ ?_ | refine LeO.bind ?_ (fun _ => ?_))
   | exact impl_HexOf.mono _ _ _
   | exact LeO.none _
   | refine LeO.ite ?_ ?_
   | refine LeO.bind ?_ (fun _ => ?_)
theorem impl_filling.calls (k:Nat) (a0:ByteArray) (a1:Int) (r:ByteArray) (w:World) (h:impl_filling.f k a0 a1 = some r) (hG:Go.Proofs.YtodlnnoekccmmaaGreatDoor.LibW.GL w:=by first | exact hG | exact hG.below q4_ | exact hG.drewN _) :
  Calls Tryz.prog 65 #[.string a0,.int .i64 a1] w fun e w' => e = .returned (.string r) ∧ Below w.heap.size w w':=by
 have HB:=Aside0.mk (Below.refl w.heap.size w)
 have H:(if a0.toList = ([110,56]:List UInt8) then ((impl_HexOf.f k a1 2).bind fun t473 => (some t473)) else (if a0.toList = ([110,49,54]:List UInt8) then ((impl_HexOf.f k a1 4).bind fun t474 => (some t474)) else ((impl_SignedOf.f a1).bind fun t475 => ((impl_decimal.f t475).bind fun t476 => (some t476))))) = some r:=h
 clear h
 by_cases c3:a0.toList = ([110,56]:List UInt8)
 ·rw [if_pos c3] at H
  have c3b0:(a0.toList == ([110,56]:List UInt8)) = true:=beq_iff_eq.mpr c3
  have c3b1:(a0.toList != ([110,56]:List UInt8)) = false:=bne_eq_false_iff_eq.mpr c3
  clear c3
  replace H:=Option.bind_eq_some_iff.mp H
  obtain ⟨t473,A40,H⟩:=H
  have A4:=Aside0.mk A40
  clear A40
  obtain rfl:=Option.some.inj H
  go_enter Tryz.func65,Tryz.ntmps65
  go_wp2_with (first | ((with_reducible refine gate_callee (f:=112) rfl ?_);refine goesL_ (some 9) rfl rfl Tryz.func112 (by kernel_rfl) rfl #[.int .i64 a1,.int .i64 2] rfl q46_ ?_;(with_reducible refine (impl_HexOf.calls k a1 2 t473 _ A4.out).mono ?_);rintro e w5 ⟨rfl,hb⟩;refine ⟨_,rfl,?_⟩;replace HB:=Aside0.mk (below_step q50_ hb);(try clear hb)))
  go_ret
  exact ⟨q53_,q50_⟩
 rw [if_neg c3] at H
 have c3b0:(a0.toList == ([110,56]:List UInt8)) = false:=beq_eq_false_iff_ne.mpr c3
 have c3b1:(a0.toList != ([110,56]:List UInt8)) = true:=bne_iff_ne.mpr c3
 by_cases c6:a0.toList = ([110,49,54]:List UInt8)
 ·rw [if_pos c6] at H
  have c6b0:(a0.toList == ([110,49,54]:List UInt8)) = true:=beq_iff_eq.mpr c6
  have c6b1:(a0.toList != ([110,49,54]:List UInt8)) = false:=bne_eq_false_iff_eq.mpr c6
  clear c6
  replace H:=Option.bind_eq_some_iff.mp H
  obtain ⟨t474,A70,H⟩:=H
  have A7:=Aside0.mk A70
  clear A70
  obtain rfl:=Option.some.inj H
  go_enter Tryz.func65,Tryz.ntmps65
  go_wp2_with (first | ((with_reducible refine gate_callee (f:=112) rfl ?_);refine goesL_ (some 13) rfl rfl Tryz.func112 (by kernel_rfl) rfl #[.int .i64 a1,.int .i64 4] rfl q46_ ?_;(with_reducible refine (impl_HexOf.calls k a1 4 t474 _ A7.out).mono ?_);rintro e w8 ⟨rfl,hb⟩;refine ⟨_,rfl,?_⟩;replace HB:=Aside0.mk (below_step q50_ hb);(try clear hb)))
  go_ret
  exact ⟨q53_,q50_⟩
 rw [if_neg c6] at H
 have c6b0:(a0.toList == ([110,49,54]:List UInt8)) = false:=beq_eq_false_iff_ne.mpr c6
 have c6b1:(a0.toList != ([110,49,54]:List UInt8)) = true:=bne_iff_ne.mpr c6
 replace H:=Option.bind_eq_some_iff.mp H
 obtain ⟨t475,A90,H⟩:=H
 have A9:=Aside0.mk A90
 clear A90
 replace H:=Option.bind_eq_some_iff.mp H
 obtain ⟨t476,A100,H⟩:=H
 have A10:=Aside0.mk A100
 clear A100
 obtain rfl:=Option.some.inj H
 go_enter Tryz.func65,Tryz.ntmps65
 go_wp2_with (first | ((with_reducible refine gate_callee (f:=113) rfl ?_);refine goesL_ (some 15) rfl rfl Tryz.func113 (by kernel_rfl) rfl #[.int .i64 a1] rfl q46_ ?_;(with_reducible refine (impl_SignedOf.calls a1 t475 _ A9.out).mono ?_);rintro e w' ⟨rfl,⟨nd,rfl⟩⟩;refine ⟨_,rfl,?_⟩) | ((with_reducible refine gate_callee (f:=89) rfl ?_);refine goesL_ (some 16) rfl rfl Tryz.func89 (by kernel_rfl) rfl #[.int .i64 t475] rfl q46_ ?_;(with_reducible refine (impl_decimal.calls t475 t476 _ A10.out).mono ?_);rintro e w11 ⟨rfl,hb⟩;refine ⟨_,rfl,?_⟩;replace HB:=Aside0.mk (below_step q50_ hb);(try clear hb)))
 go_ret
 exact ⟨q53_,q50_⟩
def impl_InsText.f (k:Nat) (a0_0:Int) (a0_1:Bool) (a0_2:Int):Option (ByteArray):=(impl_InsOk.f k a0_0 a0_1 a0_2).bind fun t478 => (if t478 = true then ((impl_TemplateOf.f k a0_0 a0_1).bind fun t479 => ((impl_holeOf.f k t479).bind fun t480 => (if t480.toList = ([]:List UInt8) then (some t479) else ((impl_filling.f k t480 a0_2).bind fun t481 => ((strings_Replace.f t479 t480 t481 1).bind fun t482 => (some t482)))))) else (some (⟨#[]⟩:ByteArray)))
theorem impl_InsText.mono:∀ a0 a1 a2 k,LeO (impl_InsText.f k a0 a1 a2) (impl_InsText.f (k + 1) a0 a1 a2):=by
 intro a0 a1 a2 k
 unfold impl_InsText.f
 repeat' first
   | (with_reducible first | exact impl_InsOk.mono _ _ _ _ | exact impl_TemplateOf.mono _ _ _ | exact impl_filling.mono _ _ _ | exact impl_holeOf.mono _ _ | exact LeO.refl _ | exact LeO.none _ | refine LeO.ite ?_ ?_ | refine LeO.bind ?_ (fun _ => ?_))
   | exact impl_InsOk.mono _ _ _ _
   | exact impl_TemplateOf.mono _ _ _
   | exact impl_filling.mono _ _ _
   | exact impl_holeOf.mono _ _
   | exact LeO.none _
   | refine LeO.ite ?_ ?_
   | refine LeO.bind ?_ (fun _ => ?_)
theorem impl_InsText.calls (k:Nat) (a0_0:Int) (a0_1:Bool) (a0_2:Int) (r:ByteArray) (w:World) (h:impl_InsText.f k a0_0 a0_1 a0_2 = some r) (hG:Go.Proofs.YtodlnnoekccmmaaGreatDoor.LibW.GL w:=by first | exact hG | exact hG.below q4_ | exact hG.drewN _) :
  Calls Tryz.prog 26 #[.agg #[.int .i64 a0_0,.bool a0_1,.int .i64 a0_2]] w fun e w' => e = .returned (.string r) ∧ Below w.heap.size w w':=by
 have hu30:=Tryz.underlying30
 have HB:=Aside0.mk (Below.refl w.heap.size w)
 have H:((impl_InsOk.f k a0_0 a0_1 a0_2).bind fun t478 => (if t478 = true then ((impl_TemplateOf.f k a0_0 a0_1).bind fun t479 => ((impl_holeOf.f k t479).bind fun t480 => (if t480.toList = ([]:List UInt8) then (some t479) else ((impl_filling.f k t480 a0_2).bind fun t481 => ((strings_Replace.f t479 t480 t481 1).bind fun t482 => (some t482)))))) else (some (⟨#[]⟩:ByteArray)))) = some r:=h
 clear h
 replace H:=Option.bind_eq_some_iff.mp H
 obtain ⟨t478,A20,H⟩:=H
 have A2:=Aside0.mk A20
 clear A20
 by_cases c3:t478 = true
 ·subst c3
  replace H:((impl_TemplateOf.f k a0_0 a0_1).bind fun t479 => ((impl_holeOf.f k t479).bind fun t480 => (if t480.toList = ([]:List UInt8) then (some t479) else ((impl_filling.f k t480 a0_2).bind fun t481 => ((strings_Replace.f t479 t480 t481 1).bind fun t482 => (some t482)))))) = some r:=by rw [if_pos rfl] at H;exact H
  replace H:=Option.bind_eq_some_iff.mp H
  obtain ⟨t479,A40,H⟩:=H
  have A4:=Aside0.mk A40
  clear A40
  replace H:=Option.bind_eq_some_iff.mp H
  obtain ⟨t480,A50,H⟩:=H
  have A5:=Aside0.mk A50
  clear A50
  by_cases c6:t480.toList = ([]:List UInt8)
  ·rw [if_pos c6] at H
   have c6b0:(t480.toList == ([]:List UInt8)) = true:=beq_iff_eq.mpr c6
   have c6b1:(t480.toList != ([]:List UInt8)) = false:=bne_eq_false_iff_eq.mpr c6
   clear c6
   obtain rfl:=Option.some.inj H
   go_enter Tryz.func26,Tryz.ntmps26
   go_wp2_with (first | ((with_reducible refine gate_dst (N:=1) rfl ?_);refine box_event ?hg (N:=1) ?hd (cs:=#[.int .i64 a0_0,.bool a0_1,.int .i64 a0_2]) (t:=30) ?hr ?_;(case hd => rfl);(case hg => rfl);(case hr => exact q114_);intro gb477 hg w7 hbox hb;have n0_:=Aside0.mk (below_step q50_ hb);have n1_:=Aside0.mk (hbox);have n2_:=Aside0.mk ((q28_:w.heap.size ≤ gb477));have n3_:=Aside0.mk ((q28_:w.heap.size ≤ gb477));clear HB;have HB:=n0_;have BK477:=n1_;have GW477:=n2_;have GE477:=n3_;clear n0_ n1_ n2_ n3_;clear hb hbox hg;have hcz8_0:w7.cell? ⟨gb477,0,none⟩ = some (.int .i64 a0_0):=(blk_cell BK477.out 0).trans rfl;have hcz8_1:w7.cell? ⟨gb477,1,none⟩ = some (.bool a0_1):=(blk_cell BK477.out 1).trans rfl;have hcz8_2:w7.cell? ⟨gb477,2,none⟩ = some (.int .i64 a0_2):=(blk_cell BK477.out 2).trans rfl;have hfz8_0:=blk_frozen BK477.out 0;have hfz8_1:=blk_frozen BK477.out 1;have hfz8_2:=blk_frozen BK477.out 2) | ((with_reducible refine gate_callee (f:=20) rfl ?_);refine goesL_ (some 6) rfl rfl Tryz.func20 (by kernel_rfl) rfl #[.agg #[.int .i64 a0_0,.bool a0_1,.int .i64 a0_2]] rfl q46_ ?_;(with_reducible refine (impl_InsOk.calls k a0_0 a0_1 a0_2 true _ A2.out).mono ?_);rintro e w9 ⟨rfl,hb⟩;refine ⟨_,rfl,?_⟩;have n0_:=Aside0.mk (blk_below (g:=gb477) (o:=.cells #[.int .i64 a0_0,.bool a0_1,.int .i64 a0_2] 30 (0,0)) q61_ hb);have n1_:=Aside0.mk (below_step q35_ hb);clear BK477;clear HB;have BK477:=n0_;have HB:=n1_;clear n0_ n1_;(try clear hb);have hcz10_0:w9.cell? ⟨gb477,0,none⟩ = some (.int .i64 a0_0):=(blk_cell BK477.out 0).trans rfl;have hcz10_1:w9.cell? ⟨gb477,1,none⟩ = some (.bool a0_1):=(blk_cell BK477.out 1).trans rfl;have hcz10_2:w9.cell? ⟨gb477,2,none⟩ = some (.int .i64 a0_2):=(blk_cell BK477.out 2).trans rfl;have hfz10_0:=blk_frozen BK477.out 0;have hfz10_1:=blk_frozen BK477.out 1;have hfz10_2:=blk_frozen BK477.out 2) | ((with_reducible refine gate_callee (f:=46) rfl ?_);refine goesL_ (some 12) rfl rfl Tryz.func46 (by kernel_rfl) rfl #[.int .i64 a0_0,.bool a0_1] rfl q46_ ?_;(with_reducible refine (impl_TemplateOf.calls k a0_0 a0_1 t479 _ A4.out).mono ?_);rintro e w11 ⟨rfl,hb⟩;refine ⟨_,rfl,?_⟩;have n0_:=Aside0.mk (blk_below (g:=gb477) (o:=.cells #[.int .i64 a0_0,.bool a0_1,.int .i64 a0_2] 30 (0,0)) q61_ hb);have n1_:=Aside0.mk (below_step q35_ hb);clear BK477;clear HB;have BK477:=n0_;have HB:=n1_;clear n0_ n1_;(try clear hb)) | ((with_reducible refine gate_callee (f:=47) rfl ?_);refine goesL_ (some 14) rfl rfl Tryz.func47 (by kernel_rfl) rfl #[.string t479] rfl q46_ ?_;(with_reducible refine (impl_holeOf.calls k t479 t480 _ A5.out).mono ?_);rintro e w12 ⟨rfl,hb⟩;refine ⟨_,rfl,?_⟩;have n0_:=Aside0.mk (blk_below (g:=gb477) (o:=.cells #[.int .i64 a0_0,.bool a0_1,.int .i64 a0_2] 30 (0,0)) q61_ hb);have n1_:=Aside0.mk (below_step q35_ hb);clear BK477;clear HB;have BK477:=n0_;have HB:=n1_;clear n0_ n1_;(try clear hb)))
   go_ret
   exact ⟨q53_,q35_⟩
  rw [if_neg c6] at H
  have c6b0:(t480.toList == ([]:List UInt8)) = false:=beq_eq_false_iff_ne.mpr c6
  have c6b1:(t480.toList != ([]:List UInt8)) = true:=bne_iff_ne.mpr c6
  replace H:=Option.bind_eq_some_iff.mp H
  obtain ⟨t481,A130,H⟩:=H
  have A13:=Aside0.mk A130
  clear A130
  replace H:=Option.bind_eq_some_iff.mp H
  obtain ⟨t482,A140,H⟩:=H
  have A14:=Aside0.mk A140
  clear A140
  obtain rfl:=Option.some.inj H
  go_enter Tryz.func26,Tryz.ntmps26
  go_wp2_with (first | ((with_reducible refine gate_dst (N:=1) rfl ?_);refine box_event ?hg (N:=1) ?hd (cs:=#[.int .i64 a0_0,.bool a0_1,.int .i64 a0_2]) (t:=30) ?hr ?_;(case hd => rfl);(case hg => rfl);(case hr => exact q114_);intro gb477 hg w15 hbox hb;have n0_:=Aside0.mk (below_step q50_ hb);have n1_:=Aside0.mk (hbox);have n2_:=Aside0.mk ((q28_:w.heap.size ≤ gb477));have n3_:=Aside0.mk ((q28_:w.heap.size ≤ gb477));clear HB;have HB:=n0_;have BK477:=n1_;have GW477:=n2_;have GE477:=n3_;clear n0_ n1_ n2_ n3_;clear hb hbox hg;have hcz16_0:w15.cell? ⟨gb477,0,none⟩ = some (.int .i64 a0_0):=(blk_cell BK477.out 0).trans rfl;have hcz16_1:w15.cell? ⟨gb477,1,none⟩ = some (.bool a0_1):=(blk_cell BK477.out 1).trans rfl;have hcz16_2:w15.cell? ⟨gb477,2,none⟩ = some (.int .i64 a0_2):=(blk_cell BK477.out 2).trans rfl;have hfz16_0:=blk_frozen BK477.out 0;have hfz16_1:=blk_frozen BK477.out 1;have hfz16_2:=blk_frozen BK477.out 2) | ((with_reducible refine gate_callee (f:=20) rfl ?_);refine goesL_ (some 6) rfl rfl Tryz.func20 (by kernel_rfl) rfl #[.agg #[.int .i64 a0_0,.bool a0_1,.int .i64 a0_2]] rfl q46_ ?_;(with_reducible refine (impl_InsOk.calls k a0_0 a0_1 a0_2 true _ A2.out).mono ?_);rintro e w17 ⟨rfl,hb⟩;refine ⟨_,rfl,?_⟩;have n0_:=Aside0.mk (blk_below (g:=gb477) (o:=.cells #[.int .i64 a0_0,.bool a0_1,.int .i64 a0_2] 30 (0,0)) q61_ hb);have n1_:=Aside0.mk (below_step q35_ hb);clear BK477;clear HB;have BK477:=n0_;have HB:=n1_;clear n0_ n1_;(try clear hb);have hcz18_0:w17.cell? ⟨gb477,0,none⟩ = some (.int .i64 a0_0):=(blk_cell BK477.out 0).trans rfl;have hcz18_1:w17.cell? ⟨gb477,1,none⟩ = some (.bool a0_1):=(blk_cell BK477.out 1).trans rfl;have hcz18_2:w17.cell? ⟨gb477,2,none⟩ = some (.int .i64 a0_2):=(blk_cell BK477.out 2).trans rfl;have hfz18_0:=blk_frozen BK477.out 0;have hfz18_1:=blk_frozen BK477.out 1;have hfz18_2:=blk_frozen BK477.out 2) | ((with_reducible refine gate_callee (f:=46) rfl ?_);refine goesL_ (some 12) rfl rfl Tryz.func46 (by kernel_rfl) rfl #[.int .i64 a0_0,.bool a0_1] rfl q46_ ?_;(with_reducible refine (impl_TemplateOf.calls k a0_0 a0_1 t479 _ A4.out).mono ?_);rintro e w19 ⟨rfl,hb⟩;refine ⟨_,rfl,?_⟩;have n0_:=Aside0.mk (blk_below (g:=gb477) (o:=.cells #[.int .i64 a0_0,.bool a0_1,.int .i64 a0_2] 30 (0,0)) q61_ hb);have n1_:=Aside0.mk (below_step q35_ hb);clear BK477;clear HB;have BK477:=n0_;have HB:=n1_;clear n0_ n1_;(try clear hb)) | ((with_reducible refine gate_callee (f:=47) rfl ?_);refine goesL_ (some 14) rfl rfl Tryz.func47 (by kernel_rfl) rfl #[.string t479] rfl q46_ ?_;(with_reducible refine (impl_holeOf.calls k t479 t480 _ A5.out).mono ?_);rintro e w20 ⟨rfl,hb⟩;refine ⟨_,rfl,?_⟩;have n0_:=Aside0.mk (blk_below (g:=gb477) (o:=.cells #[.int .i64 a0_0,.bool a0_1,.int .i64 a0_2] 30 (0,0)) q61_ hb);have n1_:=Aside0.mk (below_step q35_ hb);clear BK477;clear HB;have BK477:=n0_;have HB:=n1_;clear n0_ n1_;(try clear hb);have hcz21_0:w20.cell? ⟨gb477,0,none⟩ = some (.int .i64 a0_0):=(blk_cell BK477.out 0).trans rfl;have hcz21_1:w20.cell? ⟨gb477,1,none⟩ = some (.bool a0_1):=(blk_cell BK477.out 1).trans rfl;have hcz21_2:w20.cell? ⟨gb477,2,none⟩ = some (.int .i64 a0_2):=(blk_cell BK477.out 2).trans rfl;have hfz21_0:=blk_frozen BK477.out 0;have hfz21_1:=blk_frozen BK477.out 1;have hfz21_2:=blk_frozen BK477.out 2) | ((with_reducible refine gate_callee (f:=65) rfl ?_);refine goesL_ (some 22) rfl rfl Tryz.func65 (by kernel_rfl) rfl #[.string t480,.int .i64 a0_2] rfl q46_ ?_;(with_reducible refine (impl_filling.calls k t480 a0_2 t481 _ A13.out).mono ?_);rintro e w22 ⟨rfl,hb⟩;refine ⟨_,rfl,?_⟩;have n0_:=Aside0.mk (blk_below (g:=gb477) (o:=.cells #[.int .i64 a0_0,.bool a0_1,.int .i64 a0_2] 30 (0,0)) q61_ hb);have n1_:=Aside0.mk (below_step q35_ hb);clear BK477;clear HB;have BK477:=n0_;have HB:=n1_;clear n0_ n1_;(try clear hb)) | ((with_reducible refine gate_callee (f:=64) rfl ?_);refine goesL_ (some 23) rfl rfl Tryz.func64 (by kernel_rfl) rfl #[.string t479,.string t480,.string t481,.int .i64 1] rfl q46_ ?_;(with_reducible refine (strings_Replace.calls t479 t480 t481 1 t482 _ A14.out).mono ?_);rintro e w23 ⟨rfl,hb⟩;refine ⟨_,rfl,?_⟩;have n0_:=Aside0.mk (blk_below (g:=gb477) (o:=.cells #[.int .i64 a0_0,.bool a0_1,.int .i64 a0_2] 30 (0,0)) q61_ hb);have n1_:=Aside0.mk (below_step q35_ hb);clear BK477;clear HB;have BK477:=n0_;have HB:=n1_;clear n0_ n1_;(try clear hb)))
  go_ret
  exact ⟨q53_,q35_⟩
 replace c3:=Bool.eq_false_iff.mpr c3
 subst c3
 replace H:(some (⟨#[]⟩:ByteArray)) = some r:=by rw [if_neg (show ¬ (false = true) by decide)] at H;exact H
 obtain rfl:=Option.some.inj H
 go_enter Tryz.func26,Tryz.ntmps26
 go_wp2_with (first | ((with_reducible refine gate_dst (N:=1) rfl ?_);refine box_event ?hg (N:=1) ?hd (cs:=#[.int .i64 a0_0,.bool a0_1,.int .i64 a0_2]) (t:=30) ?hr ?_;(case hd => rfl);(case hg => rfl);(case hr => exact q114_);intro gb477 hg w24 hbox hb;have n0_:=Aside0.mk (below_step q50_ hb);have n1_:=Aside0.mk (hbox);have n2_:=Aside0.mk ((q28_:w.heap.size ≤ gb477));have n3_:=Aside0.mk ((q28_:w.heap.size ≤ gb477));clear HB;have HB:=n0_;have BK477:=n1_;have GW477:=n2_;have GE477:=n3_;clear n0_ n1_ n2_ n3_;clear hb hbox hg;have hcz25_0:w24.cell? ⟨gb477,0,none⟩ = some (.int .i64 a0_0):=(blk_cell BK477.out 0).trans rfl;have hcz25_1:w24.cell? ⟨gb477,1,none⟩ = some (.bool a0_1):=(blk_cell BK477.out 1).trans rfl;have hcz25_2:w24.cell? ⟨gb477,2,none⟩ = some (.int .i64 a0_2):=(blk_cell BK477.out 2).trans rfl;have hfz25_0:=blk_frozen BK477.out 0;have hfz25_1:=blk_frozen BK477.out 1;have hfz25_2:=blk_frozen BK477.out 2) | ((with_reducible refine gate_callee (f:=20) rfl ?_);refine goesL_ (some 6) rfl rfl Tryz.func20 (by kernel_rfl) rfl #[.agg #[.int .i64 a0_0,.bool a0_1,.int .i64 a0_2]] rfl q46_ ?_;(with_reducible refine (impl_InsOk.calls k a0_0 a0_1 a0_2 false _ A2.out).mono ?_);rintro e w26 ⟨rfl,hb⟩;refine ⟨_,rfl,?_⟩;have n0_:=Aside0.mk (blk_below (g:=gb477) (o:=.cells #[.int .i64 a0_0,.bool a0_1,.int .i64 a0_2] 30 (0,0)) q61_ hb);have n1_:=Aside0.mk (below_step q35_ hb);clear BK477;clear HB;have BK477:=n0_;have HB:=n1_;clear n0_ n1_;(try clear hb)))
 go_ret
 exact ⟨q53_,q35_⟩
def impl_LengthOf.j0:Nat → ByteArray → Bool → Option (Int)
 | 0,_,_ => none
 | k + 1,x6,x15 => if x15 = true then (some 2) else (if x6.toList = ([110,49,54]:List UInt8) then (some 3) else (some 1))
def impl_LengthOf.f (k:Nat) (a0:Int) (a1:Bool):Option (Int):=(impl_TemplateOf.f k a0 a1).bind fun t483 => ((impl_holeOf.f k t483).bind fun t484 => (if t483.toList = ([]:List UInt8) then (some 0) else (if a1 = true then (impl_LengthOf.j0 k t484 true) else (if t484.toList = ([110,56]:List UInt8) then (impl_LengthOf.j0 k t484 true) else (impl_LengthOf.j0 k t484 (t484.toList == ([101,56]:List UInt8)))))))
theorem impl_LengthOf.mono_l:∀ k,(∀ y0 y1,LeO (impl_LengthOf.j0 k y0 y1) (impl_LengthOf.j0 (k + 1) y0 y1))
 | 0 => fun _ _ r h => by simp [impl_LengthOf.j0] at h
 | k + 1 => by
  have ih0:=impl_LengthOf.mono_l k
  intro y0 y1
  unfold impl_LengthOf.j0
  repeat' first
  | (with_reducible first | exact ih0 _ _ | exact impl_TemplateOf.mono _ _ _ | exact impl_holeOf.mono _ _ | exact LeO.refl _ | exact LeO.none _ | refine LeO.ite ?_ ?_ | refine LeO.bind ?_ (fun _ => ?_))
  | exact ih0 _ _
  | exact impl_TemplateOf.mono _ _ _
  | exact impl_holeOf.mono _ _
  | exact LeO.none _
  | refine LeO.ite ?_ ?_
  | refine LeO.bind ?_ (fun _ => ?_)
theorem impl_LengthOf.mono:∀ a0 a1 k,LeO (impl_LengthOf.f k a0 a1) (impl_LengthOf.f (k + 1) a0 a1):=by
 intro a0 a1 k
 have ih0:=impl_LengthOf.mono_l k
 unfold impl_LengthOf.f
 repeat' first
   | (with_reducible first | exact ih0 _ _ | exact impl_TemplateOf.mono _ _ _ | exact impl_holeOf.mono _ _ | exact LeO.refl _ | exact LeO.none _ | refine LeO.ite ?_ ?_ | refine LeO.bind ?_ (fun _ => ?_))
   | exact ih0 _ _
   | exact impl_TemplateOf.mono _ _ _
   | exact impl_holeOf.mono _ _
   | exact LeO.none _
   | refine LeO.ite ?_ ?_
   | refine LeO.bind ?_ (fun _ => ?_)
theorem impl_LengthOf.calls (k:Nat) (a0:Int) (a1:Bool) (r:Int) (w:World) (h:impl_LengthOf.f k a0 a1 = some r) (hG:Go.Proofs.YtodlnnoekccmmaaGreatDoor.LibW.GL w:=by first | exact hG | exact hG.below q4_ | exact hG.drewN _) :
  Calls Tryz.prog 13 #[.int .i64 a0,.bool a1] w fun e w' => e = .returned (.int .i64 r) ∧ Below w.heap.size w w':=by
 have HB:=Aside0.mk (Below.refl w.heap.size w)
 have H:((impl_TemplateOf.f k a0 a1).bind fun t483 => ((impl_holeOf.f k t483).bind fun t484 => (if t483.toList = ([]:List UInt8) then (some 0) else (if a1 = true then (impl_LengthOf.j0 k t484 true) else (if t484.toList = ([110,56]:List UInt8) then (impl_LengthOf.j0 k t484 true) else (impl_LengthOf.j0 k t484 (t484.toList == ([101,56]:List UInt8)))))))) = some r:=h
 clear h
 replace H:=Option.bind_eq_some_iff.mp H
 obtain ⟨t483,A30,H⟩:=H
 have A3:=Aside0.mk A30
 clear A30
 replace H:=Option.bind_eq_some_iff.mp H
 obtain ⟨t484,A40,H⟩:=H
 have A4:=Aside0.mk A40
 clear A40
 by_cases c5:t483.toList = ([]:List UInt8)
 ·rw [if_pos c5] at H
  have c5b0:(t483.toList == ([]:List UInt8)) = true:=beq_iff_eq.mpr c5
  have c5b1:(t483.toList != ([]:List UInt8)) = false:=bne_eq_false_iff_eq.mpr c5
  clear c5
  obtain rfl:=Option.some.inj H
  go_enter Tryz.func13,Tryz.ntmps13
  go_wp2_with (first | ((with_reducible refine gate_callee (f:=46) rfl ?_);refine goesL_ (some 9) rfl rfl Tryz.func46 (by kernel_rfl) rfl #[.int .i64 a0,.bool a1] rfl q46_ ?_;(with_reducible refine (impl_TemplateOf.calls k a0 a1 t483 _ A3.out).mono ?_);rintro e w6 ⟨rfl,hb⟩;refine ⟨_,rfl,?_⟩;replace HB:=Aside0.mk (below_step q50_ hb);(try clear hb)) | ((with_reducible refine gate_callee (f:=47) rfl ?_);refine goesL_ (some 11) rfl rfl Tryz.func47 (by kernel_rfl) rfl #[.string t483] rfl q46_ ?_;(with_reducible refine (impl_holeOf.calls k t483 t484 _ A4.out).mono ?_);rintro e w7 ⟨rfl,hb⟩;refine ⟨_,rfl,?_⟩;replace HB:=Aside0.mk (below_step q50_ hb);(try clear hb)))
  go_ret
  exact ⟨q53_,q50_⟩
 rw [if_neg c5] at H
 have c5b0:(t483.toList == ([]:List UInt8)) = false:=beq_eq_false_iff_ne.mpr c5
 have c5b1:(t483.toList != ([]:List UInt8)) = true:=bne_iff_ne.mpr c5
 have HC8:=Aside0.mk H
 clear H
 go_enter Tryz.func13,Tryz.ntmps13
 go_upto_region 5 with (first | ((with_reducible refine gate_callee (f:=46) rfl ?_);refine goesL_ (some 9) rfl rfl Tryz.func46 (by kernel_rfl) rfl #[.int .i64 a0,.bool a1] rfl q46_ ?_;(with_reducible refine (impl_TemplateOf.calls k a0 a1 t483 _ A3.out).mono ?_);rintro e w9 ⟨rfl,hb⟩;refine ⟨_,rfl,?_⟩;replace HB:=Aside0.mk (below_step q50_ hb);(try clear hb)) | ((with_reducible refine gate_callee (f:=47) rfl ?_);refine goesL_ (some 11) rfl rfl Tryz.func47 (by kernel_rfl) rfl #[.string t483] rfl q46_ ?_;(with_reducible refine (impl_holeOf.calls k t483 t484 _ A4.out).mono ?_);rintro e w10 ⟨rfl,hb⟩;refine ⟨_,rfl,?_⟩;replace HB:=Aside0.mk (below_step q50_ hb);(try clear hb)))
 (try simp only [Act.put,List.setIfInBounds_toArray,List.set_cons_zero,List.set_cons_succ])
 go_cut [15] (fun v15 wc => ∃ (kq:Nat) (x15_7:Bool),v15 = .bool x15_7 ∧ Aside0 (impl_LengthOf.j0 kq t484 x15_7 = some r) ∧ Aside0 (kq ≤ k) ∧ Aside0 (Below w.heap.size w wc))
 case first =>
  have H:=HC8.out
  clear HC8
  by_cases c11:a1 = true
  ·subst c11
   replace H:(impl_LengthOf.j0 k t484 true) = some r:=by rw [if_pos rfl] at H;exact H
   have H':=Aside0.mk H
   clear H
   go_wp2
   go_meet
   case rel => exact ⟨_,(true),q69_,H',⟨q98_⟩,⟨q50_⟩⟩
  replace c11:=Bool.eq_false_iff.mpr c11
  subst c11
  replace H:(if t484.toList = ([110,56]:List UInt8) then (impl_LengthOf.j0 k t484 true) else (impl_LengthOf.j0 k t484 (t484.toList == ([101,56]:List UInt8)))) = some r:=by rw [if_neg (show ¬ (false = true) by decide)] at H;exact H
  by_cases c12:t484.toList = ([110,56]:List UInt8)
  ·rw [if_pos c12] at H
   have c12b0:(t484.toList == ([110,56]:List UInt8)) = true:=beq_iff_eq.mpr c12
   have c12b1:(t484.toList != ([110,56]:List UInt8)) = false:=bne_eq_false_iff_eq.mpr c12
   clear c12
   (first | rw [c12b0] | (simp only [i64_w,i32_w];rw [c12b0]) | skip)
   have H':=Aside0.mk H
   clear H
   go_wp2
   go_meet
   case rel => exact ⟨_,(true),q69_,H',⟨q98_⟩,⟨q50_⟩⟩
  rw [if_neg c12] at H
  have c12b0:(t484.toList == ([110,56]:List UInt8)) = false:=beq_eq_false_iff_ne.mpr c12
  have c12b1:(t484.toList != ([110,56]:List UInt8)) = true:=bne_iff_ne.mpr c12
  (first | rw [c12b0] | (simp only [i64_w,i32_w];rw [c12b0]) | skip)
  have H':=Aside0.mk H
  clear H
  go_wp2
  go_meet
  case rel => exact ⟨_,((t484.toList == ([101,56]:List UInt8))),q69_,H',⟨q98_⟩,⟨q50_⟩⟩
 clear HC8
 try clear c1
 try clear p2
 try clear c4
 try clear c5
 try clear c5b0
 try clear c5b1
 try clear p6
 try clear c11
 try clear c12
 try clear c12b0
 try clear c12b1
 obtain ⟨kq,x15_7,rfl,HA,HJ7,HB⟩:=hcut
 cases kq with
 | zero => exact absurd HA.out (by simp [impl_LengthOf.j0])
 | succ kj7 =>
  have H:=HA.out
  clear HA
  simp only [impl_LengthOf.j0] at H
  by_cases c13:x15_7 = true
  ·subst c13
   replace H:(some 2) = some r:=by rw [if_pos rfl] at H;exact H
   obtain rfl:=Option.some.inj H
   go_wp2
   go_ret
   exact ⟨q53_,q50_⟩
  replace c13:=Bool.eq_false_iff.mpr c13
  subst c13
  replace H:(if t484.toList = ([110,49,54]:List UInt8) then (some 3) else (some 1)) = some r:=by rw [if_neg (show ¬ (false = true) by decide)] at H;exact H
  by_cases c14:t484.toList = ([110,49,54]:List UInt8)
  ·rw [if_pos c14] at H
   have c14b0:(t484.toList == ([110,49,54]:List UInt8)) = true:=beq_iff_eq.mpr c14
   have c14b1:(t484.toList != ([110,49,54]:List UInt8)) = false:=bne_eq_false_iff_eq.mpr c14
   clear c14
   obtain rfl:=Option.some.inj H
   go_wp2
   go_ret
   exact ⟨q53_,q50_⟩
  rw [if_neg c14] at H
  have c14b0:(t484.toList == ([110,49,54]:List UInt8)) = false:=beq_eq_false_iff_ne.mpr c14
  have c14b1:(t484.toList != ([110,49,54]:List UInt8)) = true:=bne_iff_ne.mpr c14
  obtain rfl:=Option.some.inj H
  go_wp2
  go_ret
  exact ⟨q53_,q50_⟩
end Go.Proofs.YtodlnnoekccmmaaGreatDoor.QFnExactListed
