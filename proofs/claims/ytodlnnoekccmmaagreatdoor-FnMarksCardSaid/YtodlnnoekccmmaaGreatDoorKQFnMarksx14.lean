/- The machine's side of a law,written by a program of this session for this claim. -/
import Derived.Test.YtodlnnoekccmmaaGreatDoorKQq
import Derived.Test.YtodlnnoekccmmaaGreatDoorKQFnMarksx0
import Derived.Test.YtodlnnoekccmmaaGreatDoorKQFnMarksx1
import Derived.Test.YtodlnnoekccmmaaGreatDoorKQFnMarksx5
import Derived.Test.YtodlnnoekccmmaaGreatDoorKQFnMarksx6
namespace Go.Proofs.YtodlnnoekccmmaaGreatDoor.QFnMarks
open Go.Proofs.YtodlnnoekccmmaaGreatDoor.Qq
open Go.RowKit Go.Proofs.YtodlnnoekccmmaaGreatDoor.LibX Go.Proofs.YtodlnnoekccmmaaGreatDoor.LibE Go.Proofs.YtodlnnoekccmmaaGreatDoor.LibCB Go.Proofs.YtodlnnoekccmmaaGreatDoorW.PrintWords Go.Proofs.YtodlnnoekccmmaaGreatDoorW.PrintLast Go.Proofs.YtodlnnoekccmmaaGreatDoorW.PrintMore
attribute [local go_sem] max2_int min2_int max_two min_two max_three min_three max_four min_four   -- for this text's walks alone
set_option maxHeartbeats 8000000
set_option maxRecDepth 100000
set_option linter.unusedVariables false
set_option linter.unusedSimpArgs false
def impl_banksOf.f (a0:ByteArray) (a1:Int):Option (Int):=if ((a0.size:Int) % 256) = 0 then ((impl_within.f (wrap64 ((a0.size:Int) / 256)) a1 16).bind fun t476 => (if t476 = true then (some (wrap64 ((a0.size:Int) / 256))) else (some 0))) else (some 0)
theorem impl_banksOf.calls (a0:ByteArray) (a1:Int) (r:Int) (w:World) (h:impl_banksOf.f a0 a1 = some r) :
  Calls Tryz.prog 78 #[.string a0,.int .i64 a1] w fun e w' => e = .returned (.int .i64 r) ∧ Drawn0 w w':=by
 have H:=h;unfold impl_banksOf.f at H
 clear h
 by_cases c3:((a0.size:Int) % 256) = 0
 ·rw [if_pos c3] at H
  have c3b0:(((a0.size:Int) % 256) == 0) = true:=beq_iff_eq.mpr c3
  have c3b1:(((a0.size:Int) % 256) != 0) = false:=bne_eq_false_iff_eq.mpr c3
  clear c3
  replace H:=Option.bind_eq_some_iff.mp H
  obtain ⟨t476,A40,H⟩:=H
  have A4:=Aside0.mk A40
  clear A40
  by_cases c5:t476 = true
  ·subst c5
   rewrite [if_pos rfl] at H
   obtain rfl:=Option.some.inj H
   go_enter Tryz.func78,Tryz.ntmps78
   go_wp2_with (first | (go_at_call 61;(with_reducible refine (impl_within.calls (wrap64 ((a0.size:Int) / 256)) a1 16 true _ A4.out).mono ?_);rintro e w' ⟨rfl,⟨nd,rfl⟩⟩))
   go_ret
   exact ⟨q94_,q117_⟩
  replace c5:=Bool.eq_false_iff.mpr c5
  subst c5
  rewrite [if_neg (show ¬ (false = true) by decide)] at H
  obtain rfl:=Option.some.inj H
  go_enter Tryz.func78,Tryz.ntmps78
  go_wp2_with (first | (go_at_call 61;(with_reducible refine (impl_within.calls (wrap64 ((a0.size:Int) / 256)) a1 16 false _ A4.out).mono ?_);rintro e w' ⟨rfl,⟨nd,rfl⟩⟩))
  go_ret
  exact ⟨q94_,q117_⟩
 rw [if_neg c3] at H
 have c3b0:(((a0.size:Int) % 256) == 0) = false:=beq_eq_false_iff_ne.mpr c3
 have c3b1:(((a0.size:Int) % 256) != 0) = true:=bne_iff_ne.mpr c3
 obtain rfl:=Option.some.inj H
 go_enter Tryz.func78,Tryz.ntmps78
 go_wp2
 go_ret
 exact ⟨q94_,q117_⟩
def impl_inBank.f (k:Nat) (a0:ByteArray) (a1:Int):Option (Int × Bool × Int × Int):=if 0 ≤ (wrap64 ((wrap64 ((wrap64 (Int.tdiv a1 256)) + 1)) * 256)) then (if (wrap64 ((wrap64 ((wrap64 (Int.tdiv a1 256)) + 1)) * 256)) ≤ (a0.size:Int) then ((impl_ReadIns.f k (a0.extract 0 ((wrap64 ((wrap64 ((wrap64 (Int.tdiv a1 256)) + 1)) * 256)):Int).toNat) a1).bind fun bt478 => (some (bt478.1,bt478.2.1,bt478.2.2.1,bt478.2.2.2))) else (none)) else (none)
theorem impl_inBank.calls (k:Nat) (a0:ByteArray) (a1:Int) (r1:Int) (r2:Bool) (r3:Int) (r4:Int) (w:World) (h:impl_inBank.f k a0 a1 = some (r1,r2,r3,r4)) (hG:Go.Proofs.YtodlnnoekccmmaaGreatDoor.LibW.GL w:=by first | exact hG | exact hG.below q5_ | exact hG.drewN _) :
  Calls Tryz.prog 80 #[.string a0,.int .i64 a1] w fun e w' => e = .returned (.tuple #[.agg #[.int .i64 r1,.bool r2,.int .i64 r3],.int .i64 r4]) ∧ Below w.heap.size w w':=by
 have hu30:=Tryz.underlying30
 have HB:=Aside0.mk (Below.refl w.heap.size w)
 have H:=h;unfold impl_inBank.f at H
 clear h
 obtain ⟨ji3,hji3⟩:∃ j_:Int,(wrap64 ((wrap64 ((wrap64 (Int.tdiv a1 256)) + 1)) * 256)) = j_:=⟨_,rfl⟩
 (first | rewrite [hji3] at H | simp only [hji3] at H)
 have hji3w:(IntKind.i64.wrap ((wrap64 ((wrap64 (Int.tdiv a1 256)) + 1)) * 256)) = ji3:=(i64_w _).trans hji3
 by_cases c4:0 ≤ (ji3)
 rotate_left
 ·rw [if_neg c4] at H
  exact absurd H (by simp)
 rw [if_pos c4] at H
 have c4b0:=eq_true c4
 have c4b1:=decide_eq_true c4
 clear c4
 by_cases c5:(ji3) ≤ (a0.size:Int)
 rotate_left
 ·rw [if_neg c5] at H
  exact absurd H (by simp)
 rw [if_pos c5] at H
 have c5b0:=eq_true c5
 have c5b1:=decide_eq_true c5
 clear c5
 replace H:=Option.bind_eq_some_iff.mp H
 obtain ⟨⟨t478,t479,t480,t481⟩,A60,H⟩:=H
 try dsimp -simprocs -eta only at H
 have A6:=Aside0.mk A60
 clear A60
 simp only [Option.some.injEq,Prod.mk.injEq] at H
 obtain ⟨rfl,rfl,rfl,rfl⟩:=H
 go_enter Tryz.func80,Tryz.ntmps80
 go_wp2_with (first | ((with_reducible refine gate_dst (N:=4) rfl ?_);refine box_event ?hg (N:=4) ?hd (cs:=#[.int .i64 0,.bool false,.int .i64 0]) (t:=30) ?hr ?_;(case hd => rfl);(case hg => rfl);(case hr => exact q153_);intro gb477 hg w7 hbox hb;have n0_:=Aside0.mk (below_step q70_ hb);have n1_:=Aside0.mk (hbox);have n2_:=Aside0.mk ((q46_:w.heap.size ≤ gb477));have n3_:=Aside0.mk ((q46_:w.heap.size ≤ gb477));clear HB;have HB:=n0_;have BK477:=n1_;have GW477:=n2_;have GE477:=n3_;clear n0_ n1_ n2_ n3_;clear hb hbox hg) | ((with_reducible refine gate_callee (f:=22) rfl ?_);refine goesL_ (some 13) rfl rfl Tryz.func22 (by kernel_rfl) rfl #[.string (a0.extract 0 ((ji3):Int).toNat),.int .i64 a1] rfl (by (try simp only [List.map_toArray,List.map_cons,List.map_nil]);first | done | (simp only [hji3];rfl) | rfl | (simp only [List.length_drop,List.length_take];rfl)) ?_;(with_reducible refine (impl_ReadIns.calls k (a0.extract 0 ((ji3):Int).toNat) a1 t478 t479 t480 t481 _ A6.out).mono ?_);rintro e w8 ⟨rfl,hb⟩;refine ⟨_,rfl,?_⟩;have n0_:=Aside0.mk (blk_below (g:=gb477) (o:=.cells #[.int .i64 0,.bool false,.int .i64 0] 30 (0,0)) (by (with_reducible repeat (first | refine blk_drewN ?_ _ | refine blk_drew ?_ | refine blk_alloc ?_ _));exact BK477.out) hb);have n1_:=Aside0.mk (below_step q51_ hb);clear BK477;clear HB;have BK477:=n0_;have HB:=n1_;clear n0_ n1_;(try clear hb);have hcz9_0:w8.cell? ⟨gb477,0,none⟩ = some (.int .i64 0):=(blk_cell BK477.out 0).trans rfl;have hcz9_1:w8.cell? ⟨gb477,1,none⟩ = some (.bool false):=(blk_cell BK477.out 1).trans rfl;have hcz9_2:w8.cell? ⟨gb477,2,none⟩ = some (.int .i64 0):=(blk_cell BK477.out 2).trans rfl;have hfz9_0:=blk_frozen BK477.out 0;have hfz9_1:=blk_frozen BK477.out 1;have hfz9_2:=blk_frozen BK477.out 2))
 refine bodyPost_ret (results_ct rfl _ _ gb477 30 #[.int .i64 t478,.bool t479,.int .i64 t480] (0,0) _ rfl (by (with_reducible repeat (first | refine blk_drewN ?_ _ | refine blk_drew ?_ | refine blk_alloc ?_ _));refine blk_put (cs:=#[.int .i64 t478,.bool t479,.int .i64 0]) ?_ 2 _ rfl;(with_reducible repeat (first | refine blk_drewN ?_ _ | refine blk_drew ?_ | refine blk_alloc ?_ _));refine blk_put (cs:=#[.int .i64 t478,.bool false,.int .i64 0]) ?_ 1 _ rfl;(with_reducible repeat (first | refine blk_drewN ?_ _ | refine blk_drew ?_ | refine blk_alloc ?_ _));refine blk_put (cs:=#[.int .i64 0,.bool false,.int .i64 0]) ?_ 0 _ rfl;(with_reducible repeat (first | refine blk_drewN ?_ _ | refine blk_drew ?_ | refine blk_alloc ?_ _));exact BK477.out) Tryz.underlying30 rfl (by kernel_rfl)) rfl ?_
 exact ⟨q32_,q51_⟩
def impl_isData.l0:Nat → List Int → Int → Int → Option (Bool)
 | 0,_,_,_ => none
 | k + 1,x5,x6,x7 => if x7 < x6 then (if 0 ≤ x7 then (if x7 < (x5.length:Int) then (if (rd x5 x7) = 100 then (impl_isData.l0 k x5 x6 (wrap64 (x7 + 1))) else (some false)) else (none)) else (none)) else (some true)
def impl_isData.f (k:Nat) (l0:List Int):Option (Bool):=impl_isData.l0 k l0 (l0.length:Int) 0
theorem impl_isData.calls (k:Nat) (A0:Option Addr) (c0:Nat) (l0:List Int) (r:Bool) (w:World) (hr0:Kd.C (Kd.int .u8) w A0 l0.length l0) (hc0:l0.length ≤ c0) (h:impl_isData.f k l0 = some r) :
  Calls Tryz.prog 81 #[.slice A0 l0.length c0] w fun e w' => e = .returned (.bool r) ∧ Drawn0 w w':=by
 have HR0:=Aside0.mk hr0
 have HC0:=Aside0.mk hc0
 clear hr0 hc0
 have H:(impl_isData.l0 k l0 (l0.length:Int) 0) = some r:=h
 clear h
 have H':=Aside0.mk H
 clear H
 go_enter Tryz.func81,Tryz.ntmps81
 go_wp2
 go_loopg [7] k (fun kq v7 w' => ∃ (x7_1:Int),v7 = .int .i64 x7_1 ∧ Aside0 (impl_isData.l0 kq l0 (l0.length:Int) x7_1 = some r) ∧ Aside0 (kq ≤ k) ∧ Drawn0 w w')
 case atStart => exact ⟨(0),q94_,H',⟨Nat.le_refl _⟩,q117_⟩
 clear H'
 obtain ⟨x7_1,rfl,HA,HK1,⟨m1,rfl⟩⟩:=hrel
 cases gk with
 | zero => exact absurd HA.out (by simp [impl_isData.l0])
 | succ k1 =>
  have H:=HA.out
  clear HA
  simp only [impl_isData.l0] at H
  by_cases c2:x7_1 < (l0.length:Int)
  ·rw [if_pos c2] at H
   have c2b0:=decide_eq_true c2
   clear c2
   by_cases c3:0 ≤ x7_1
   rotate_left
   ·rw [if_neg c3] at H
    exact absurd H (by simp)
   rw [if_pos c3] at H
   have c3b0:=decide_eq_true c3
   clear c3
   by_cases c4:x7_1 < (l0.length:Int)
   rotate_left
   ·rw [if_neg c4] at H
    exact absurd H (by simp)
   rw [if_pos c4] at H
   have c4b0:=decide_eq_true c4
   clear c4
   by_cases c5:(rd l0 x7_1) = 100
   ·rw [if_pos c5] at H
    have c5b0:((rd l0 x7_1) == 100) = true:=beq_iff_eq.mpr c5
    have c5b1:((rd l0 x7_1) != 100) = false:=bne_eq_false_iff_eq.mpr c5
    clear c5
    have H':=Aside0.mk H
    clear H
    have p482:0 ≤ (x7_1:Int):=of_decide_eq_true q119_
    have q482:x7_1 < (l0.length:Int):=of_decide_eq_true q119_
    obtain ⟨ad482,e482,hx482_0⟩:=Kd.at_int HR0.out x7_1 p482 q482
    cases e482
    replace p482:=eq_true p482
    replace q482:=eq_true q482
    go_wp2
    go_roundg k1
    case measure => have:=HK1.out;omega
    case rel => exact ⟨(wrap64 (x7_1 + 1)),q94_,H',⟨by have:=HK1.out;omega⟩,q117_⟩
   rw [if_neg c5] at H
   have c5b0:((rd l0 x7_1) == 100) = false:=beq_eq_false_iff_ne.mpr c5
   have c5b1:((rd l0 x7_1) != 100) = true:=bne_iff_ne.mpr c5
   obtain rfl:=Option.some.inj H
   have p482:0 ≤ (x7_1:Int):=of_decide_eq_true q119_
   have q482:x7_1 < (l0.length:Int):=of_decide_eq_true q119_
   obtain ⟨ad482,e482,hx482_0⟩:=Kd.at_int HR0.out x7_1 p482 q482
   cases e482
   replace p482:=eq_true p482
   replace q482:=eq_true q482
   go_wp2
   go_ret
   exact ⟨q94_,q117_⟩
  rw [if_neg c2] at H
  have c2b0:=decide_eq_false c2
  clear c2
  obtain rfl:=Option.some.inj H
  go_wp2
  go_ret
  exact ⟨q94_,q117_⟩
def impl_goesOn.j0:Nat → Bool → Option (Bool)
 | 0,_ => none
 | k + 1,x8 => if x8 = true then (some false) else (some true)
def impl_goesOn.f (k:Nat) (a0_0:Int) (a0_1:Bool) (a0_2:Int):Option (Bool):=(impl_TemplateOf.f k a0_0 a0_1).bind fun t484 => (if t484.toList = ([106,112,32,110,49,54]:List UInt8) then (impl_goesOn.j0 k (t484.toList == ([106,112,32,110,49,54]:List UInt8))) else (if t484.toList = ([106,114,32,101,56]:List UInt8) then (impl_goesOn.j0 k (t484.toList == ([106,114,32,101,56]:List UInt8))) else (if t484.toList = ([114,101,116]:List UInt8) then (impl_goesOn.j0 k (t484.toList == ([114,101,116]:List UInt8))) else (if t484.toList = ([114,101,116,105]:List UInt8) then (impl_goesOn.j0 k (t484.toList == ([114,101,116,105]:List UInt8))) else (impl_goesOn.j0 k (t484.toList == ([106,112,32,104,108]:List UInt8)))))))
theorem impl_goesOn.calls (k:Nat) (a0_0:Int) (a0_1:Bool) (a0_2:Int) (r:Bool) (w:World) (h:impl_goesOn.f k a0_0 a0_1 a0_2 = some r) (hG:Go.Proofs.YtodlnnoekccmmaaGreatDoor.LibW.GL w:=by first | exact hG | exact hG.below q5_ | exact hG.drewN _) :
  Calls Tryz.prog 82 #[.agg #[.int .i64 a0_0,.bool a0_1,.int .i64 a0_2]] w fun e w' => e = .returned (.bool r) ∧ Below w.heap.size w w':=by
 have hu30:=Tryz.underlying30
 have HB:=Aside0.mk (Below.refl w.heap.size w)
 have H:=h;unfold impl_goesOn.f at H
 clear h
 replace H:=Option.bind_eq_some_iff.mp H
 obtain ⟨t484,A20,H⟩:=H
 have A2:=Aside0.mk A20
 clear A20
 have HC3:=Aside0.mk H
 clear H
 go_enter Tryz.func82,Tryz.ntmps82
 go_upto_if 8 with (first | ((with_reducible refine gate_dst (N:=1) rfl ?_);refine box_event ?hg (N:=1) ?hd (cs:=#[.int .i64 a0_0,.bool a0_1,.int .i64 a0_2]) (t:=30) ?hr ?_;(case hd => rfl);(case hg => rfl);(case hr => exact q153_);intro gb483 hg w4 hbox hb;have n0_:=Aside0.mk (below_step q70_ hb);have n1_:=Aside0.mk (hbox);have n2_:=Aside0.mk ((q46_:w.heap.size ≤ gb483));have n3_:=Aside0.mk ((q46_:w.heap.size ≤ gb483));clear HB;have HB:=n0_;have BK483:=n1_;have GW483:=n2_;have GE483:=n3_;clear n0_ n1_ n2_ n3_;clear hb hbox hg;have hcz5_0:w4.cell? ⟨gb483,0,none⟩ = some (.int .i64 a0_0):=(blk_cell BK483.out 0).trans rfl;have hcz5_1:w4.cell? ⟨gb483,1,none⟩ = some (.bool a0_1):=(blk_cell BK483.out 1).trans rfl;have hcz5_2:w4.cell? ⟨gb483,2,none⟩ = some (.int .i64 a0_2):=(blk_cell BK483.out 2).trans rfl;have hfz5_0:=blk_frozen BK483.out 0;have hfz5_1:=blk_frozen BK483.out 1;have hfz5_2:=blk_frozen BK483.out 2) | ((with_reducible refine gate_callee (f:=46) rfl ?_);refine goesL_ (some 7) rfl rfl Tryz.func46 (by kernel_rfl) rfl #[.int .i64 a0_0,.bool a0_1] rfl q68_ ?_;(with_reducible refine (impl_TemplateOf.calls k a0_0 a0_1 t484 _ A2.out).mono ?_);rintro e w6 ⟨rfl,hb⟩;refine ⟨_,rfl,?_⟩;have n0_:=Aside0.mk (blk_below (g:=gb483) (o:=.cells #[.int .i64 a0_0,.bool a0_1,.int .i64 a0_2] 30 (0,0)) q82_ hb);have n1_:=Aside0.mk (below_step q52_ hb);clear BK483;clear HB;have BK483:=n0_;have HB:=n1_;clear n0_ n1_;(try clear hb)))
 (try simp only [Act.put,List.setIfInBounds_toArray,List.set_cons_zero,List.set_cons_succ])
 go_cut [8] (fun v8 wc => ∃ (kq:Nat) (x8_2:Bool),v8 = .bool x8_2 ∧ Aside0 (impl_goesOn.j0 kq x8_2 = some r) ∧ Aside0 (kq ≤ k) ∧ Aside0 (wc.heap[gb483]? = some (.cells #[.int .i64 a0_0,.bool a0_1,.int .i64 a0_2] 30 (0,0))) ∧ Aside0 (Below w.heap.size w wc))
 case first =>
  have H:=HC3.out
  clear HC3
  by_cases c7:t484.toList = ([106,112,32,110,49,54]:List UInt8)
  ·rw [if_pos c7] at H
   have c7b0:(t484.toList == ([106,112,32,110,49,54]:List UInt8)) = true:=beq_iff_eq.mpr c7
   have c7b1:(t484.toList != ([106,112,32,110,49,54]:List UInt8)) = false:=bne_eq_false_iff_eq.mpr c7
   clear c7
   (first | rw [c7b0] | (simp only [i64_w,i32_w];rw [c7b0]) | skip)
   have H':=Aside0.mk H
   clear H
   go_wp2
   go_meet
   case rel => exact ⟨_,((t484.toList == ([106,112,32,110,49,54]:List UInt8))),q94_,H',⟨q132_⟩,⟨q82_⟩,⟨q52_⟩⟩
  rw [if_neg c7] at H
  have c7b0:(t484.toList == ([106,112,32,110,49,54]:List UInt8)) = false:=beq_eq_false_iff_ne.mpr c7
  have c7b1:(t484.toList != ([106,112,32,110,49,54]:List UInt8)) = true:=bne_iff_ne.mpr c7
  (first | rw [c7b0] | (simp only [i64_w,i32_w];rw [c7b0]) | skip)
  by_cases c8:t484.toList = ([106,114,32,101,56]:List UInt8)
  ·rw [if_pos c8] at H
   have c8b0:(t484.toList == ([106,114,32,101,56]:List UInt8)) = true:=beq_iff_eq.mpr c8
   have c8b1:(t484.toList != ([106,114,32,101,56]:List UInt8)) = false:=bne_eq_false_iff_eq.mpr c8
   clear c8
   have H':=Aside0.mk H
   clear H
   go_wp2
   go_meet
   case rel => exact ⟨_,((t484.toList == ([106,114,32,101,56]:List UInt8))),q94_,H',⟨q132_⟩,⟨q82_⟩,⟨q52_⟩⟩
  rw [if_neg c8] at H
  have c8b0:(t484.toList == ([106,114,32,101,56]:List UInt8)) = false:=beq_eq_false_iff_ne.mpr c8
  have c8b1:(t484.toList != ([106,114,32,101,56]:List UInt8)) = true:=bne_iff_ne.mpr c8
  by_cases c9:t484.toList = ([114,101,116]:List UInt8)
  ·rw [if_pos c9] at H
   have c9b0:(t484.toList == ([114,101,116]:List UInt8)) = true:=beq_iff_eq.mpr c9
   have c9b1:(t484.toList != ([114,101,116]:List UInt8)) = false:=bne_eq_false_iff_eq.mpr c9
   clear c9
   have H':=Aside0.mk H
   clear H
   go_wp2
   go_meet
   case rel => exact ⟨_,((t484.toList == ([114,101,116]:List UInt8))),q94_,H',⟨q132_⟩,⟨q82_⟩,⟨q52_⟩⟩
  rw [if_neg c9] at H
  have c9b0:(t484.toList == ([114,101,116]:List UInt8)) = false:=beq_eq_false_iff_ne.mpr c9
  have c9b1:(t484.toList != ([114,101,116]:List UInt8)) = true:=bne_iff_ne.mpr c9
  by_cases c10:t484.toList = ([114,101,116,105]:List UInt8)
  ·rw [if_pos c10] at H
   have c10b0:(t484.toList == ([114,101,116,105]:List UInt8)) = true:=beq_iff_eq.mpr c10
   have c10b1:(t484.toList != ([114,101,116,105]:List UInt8)) = false:=bne_eq_false_iff_eq.mpr c10
   clear c10
   have H':=Aside0.mk H
   clear H
   go_wp2
   go_meet
   case rel => exact ⟨_,((t484.toList == ([114,101,116,105]:List UInt8))),q94_,H',⟨q132_⟩,⟨q82_⟩,⟨q52_⟩⟩
  rw [if_neg c10] at H
  have c10b0:(t484.toList == ([114,101,116,105]:List UInt8)) = false:=beq_eq_false_iff_ne.mpr c10
  have c10b1:(t484.toList != ([114,101,116,105]:List UInt8)) = true:=bne_iff_ne.mpr c10
  have H':=Aside0.mk H
  clear H
  go_wp2
  go_meet
  case rel => exact ⟨_,((t484.toList == ([106,112,32,104,108]:List UInt8))),q94_,H',⟨q132_⟩,⟨q82_⟩,⟨q52_⟩⟩
 clear HC3
 try clear c1
 try clear p2
 try clear c4
 try clear p6
 try clear c7
 try clear c7b0
 try clear c7b1
 try clear c8
 try clear c8b0
 try clear c8b1
 try clear c9
 try clear c9b0
 try clear c9b1
 try clear c10
 try clear c10b0
 try clear c10b1
 try clear hcz5_0 hcz5_1 hcz5_2
 try clear hfz5_0 hfz5_1 hfz5_2
 obtain ⟨kq,x8_2,rfl,HA,HJ2,BK483,HB⟩:=hcut
 cases kq with
 | zero => exact absurd HA.out (by simp [impl_goesOn.j0])
 | succ kj2 =>
  have H:=HA.out
  clear HA
  simp only [impl_goesOn.j0] at H
  by_cases c11:x8_2 = true
  ·subst c11
   rewrite [if_pos rfl] at H
   obtain rfl:=Option.some.inj H
   go_wp2
   go_ret
   exact ⟨q75_,q52_⟩
  replace c11:=Bool.eq_false_iff.mpr c11
  subst c11
  rewrite [if_neg (show ¬ (false = true) by decide)] at H
  obtain rfl:=Option.some.inj H
  go_wp2
  go_ret
  exact ⟨q75_,q52_⟩
def impl_SignedOf.f (a0:Int):Option (Int):=(impl_isByte.f a0).bind fun t485 => (if t485 = true then (if a0 > 127 then (some (wrap64 (a0 - 256))) else (some a0)) else (some 0))
theorem impl_SignedOf.calls (a0:Int) (r:Int) (w:World) (h:impl_SignedOf.f a0 = some r) :
  Calls Tryz.prog 113 #[.int .i64 a0] w fun e w' => e = .returned (.int .i64 r) ∧ Drawn0 w w':=by
 have H:=h;unfold impl_SignedOf.f at H
 clear h
 replace H:=Option.bind_eq_some_iff.mp H
 obtain ⟨t485,A20,H⟩:=H
 have A2:=Aside0.mk A20
 clear A20
 by_cases c3:t485 = true
 ·subst c3
  rewrite [if_pos rfl] at H
  by_cases c4:a0 > 127
  ·rw [if_pos c4] at H
   have c4b0:decide (127 < a0) = true:=decide_eq_true c4
   clear c4
   obtain rfl:=Option.some.inj H
   go_enter Tryz.func113,Tryz.ntmps113
   go_wp2_with (first | ((with_reducible refine gate_callee (f:=58) rfl ?_);refine goesL_ (some 5) rfl rfl Tryz.func58 (by kernel_rfl) rfl #[.int .i64 a0] rfl q68_ ?_;(with_reducible refine (impl_isByte.calls a0 true _ A2.out).mono ?_);rintro e w' ⟨rfl,⟨nd,rfl⟩⟩;refine ⟨_,rfl,?_⟩))
   go_ret
   exact ⟨q94_,q117_⟩
  rw [if_neg c4] at H
  have c4b0:decide (127 < a0) = false:=decide_eq_false c4
  clear c4
  obtain rfl:=Option.some.inj H
  go_enter Tryz.func113,Tryz.ntmps113
  go_wp2_with (first | ((with_reducible refine gate_callee (f:=58) rfl ?_);refine goesL_ (some 5) rfl rfl Tryz.func58 (by kernel_rfl) rfl #[.int .i64 a0] rfl q68_ ?_;(with_reducible refine (impl_isByte.calls a0 true _ A2.out).mono ?_);rintro e w' ⟨rfl,⟨nd,rfl⟩⟩;refine ⟨_,rfl,?_⟩))
  go_ret
  exact ⟨q94_,q117_⟩
 replace c3:=Bool.eq_false_iff.mpr c3
 subst c3
 rewrite [if_neg (show ¬ (false = true) by decide)] at H
 obtain rfl:=Option.some.inj H
 go_enter Tryz.func113,Tryz.ntmps113
 go_wp2_with (first | ((with_reducible refine gate_callee (f:=58) rfl ?_);refine goesL_ (some 5) rfl rfl Tryz.func58 (by kernel_rfl) rfl #[.int .i64 a0] rfl q68_ ?_;(with_reducible refine (impl_isByte.calls a0 false _ A2.out).mono ?_);rintro e w' ⟨rfl,⟨nd,rfl⟩⟩;refine ⟨_,rfl,?_⟩))
 go_ret
 exact ⟨q94_,q117_⟩
def impl_addrOf.f (a0:Int):Option (Int):=if a0 < 256 then (some a0) else (some (wrap64 ((Int.tmod a0 256) + 256)))
theorem impl_addrOf.calls (a0:Int) (r:Int) (w:World) (h:impl_addrOf.f a0 = some r) :
  Calls Tryz.prog 124 #[.int .i64 a0] w fun e w' => e = .returned (.int .i64 r) ∧ Drawn0 w w':=by
 have H:=h;unfold impl_addrOf.f at H
 clear h
 by_cases c2:a0 < 256
 ·rw [if_pos c2] at H
  have c2b0:=decide_eq_true c2
  clear c2
  obtain rfl:=Option.some.inj H
  go_enter Tryz.func124,Tryz.ntmps124
  go_wp2
  go_ret
  exact ⟨q94_,q117_⟩
 rw [if_neg c2] at H
 have c2b0:=decide_eq_false c2
 clear c2
 obtain rfl:=Option.some.inj H
 go_enter Tryz.func124,Tryz.ntmps124
 go_wp2
 go_ret
 exact ⟨q94_,q117_⟩
def impl_jumps.j0:Nat → ByteArray → Bool → Int → Bool → Int → Option (Int × Bool)
 | 0,_,_,_,_,_ => none
 | k + 1,x7,x31,x487000,x487001,x487002 => if x31 = true then (some (x487002,true)) else (if x7.toList = ([114,115,116]:List UInt8) then (some (Go.bits .and .i64 x487000 56,true)) else (some (0,false)))
def impl_jumps.f (k:Nat) (a0_0:Int) (a0_1:Bool) (a0_2:Int) (a1:Int):Option (Int × Bool):=(impl_TemplateOf.f k a0_0 a0_1).bind fun t487 => ((strings_Cut.f t487 (⟨#[32]⟩:ByteArray)).bind fun bt488 => (if bt488.1.toList = ([106,114]:List UInt8) then ((impl_addrOf.f a1).bind fun t491 => ((impl_SignedOf.f a0_2).bind fun t492 => (some (wrap64 ((wrap64 (t491 + 2)) + t492),true)))) else (if bt488.1.toList = ([106,112]:List UInt8) then (impl_jumps.j0 k bt488.1 (bt488.2.1.toList != ([104,108]:List UInt8)) a0_0 a0_1 a0_2) else (if bt488.1.toList = ([99,97,108,108]:List UInt8) then (impl_jumps.j0 k bt488.1 (bt488.2.1.toList != ([104,108]:List UInt8)) a0_0 a0_1 a0_2) else (impl_jumps.j0 k bt488.1 false a0_0 a0_1 a0_2)))))
theorem impl_jumps.calls (k:Nat) (a0_0:Int) (a0_1:Bool) (a0_2:Int) (a1:Int) (r1:Int) (r2:Bool) (w:World) (h:impl_jumps.f k a0_0 a0_1 a0_2 a1 = some (r1,r2)) (hG:Go.Proofs.YtodlnnoekccmmaaGreatDoor.LibW.GL w:=by first | exact hG | exact hG.below q5_ | exact hG.drewN _) :
  Calls Tryz.prog 83 #[.agg #[.int .i64 a0_0,.bool a0_1,.int .i64 a0_2],.int .i64 a1] w fun e w' => e = .returned (.tuple #[.int .i64 r1,.bool r2]) ∧ Below w.heap.size w w':=by
 have hu30:=Tryz.underlying30
 have HB:=Aside0.mk (Below.refl w.heap.size w)
 have H:=h;unfold impl_jumps.f at H
 clear h
 replace H:=Option.bind_eq_some_iff.mp H
 obtain ⟨t487,A30,H⟩:=H
 have A3:=Aside0.mk A30
 clear A30
 replace H:=Option.bind_eq_some_iff.mp H
 obtain ⟨⟨t488,t489,t490⟩,A40,H⟩:=H
 try dsimp -simprocs -eta only at H
 have A4:=Aside0.mk A40
 clear A40
 by_cases c5:t488.toList = ([106,114]:List UInt8)
 ·rw [if_pos c5] at H
  have c5b0:(t488.toList == ([106,114]:List UInt8)) = true:=beq_iff_eq.mpr c5
  have c5b1:(t488.toList != ([106,114]:List UInt8)) = false:=bne_eq_false_iff_eq.mpr c5
  clear c5
  replace H:=Option.bind_eq_some_iff.mp H
  obtain ⟨t491,A60,H⟩:=H
  have A6:=Aside0.mk A60
  clear A60
  replace H:=Option.bind_eq_some_iff.mp H
  obtain ⟨t492,A70,H⟩:=H
  have A7:=Aside0.mk A70
  clear A70
  simp only [Option.some.injEq,Prod.mk.injEq] at H
  obtain ⟨rfl,rfl⟩:=H
  go_enter Tryz.func83,Tryz.ntmps83
  go_wp2_with (first | ((with_reducible refine gate_dst (N:=2) rfl ?_);refine box_event ?hg (N:=2) ?hd (cs:=#[.int .i64 a0_0,.bool a0_1,.int .i64 a0_2]) (t:=30) ?hr ?_;(case hd => rfl);(case hg => rfl);(case hr => exact q153_);intro gb486 hg w8 hbox hb;have n0_:=Aside0.mk (below_step q70_ hb);have n1_:=Aside0.mk (hbox);have n2_:=Aside0.mk ((q46_:w.heap.size ≤ gb486));have n3_:=Aside0.mk ((q46_:w.heap.size ≤ gb486));clear HB;have HB:=n0_;have BK486:=n1_;have GW486:=n2_;have GE486:=n3_;clear n0_ n1_ n2_ n3_;clear hb hbox hg;have hcz9_0:w8.cell? ⟨gb486,0,none⟩ = some (.int .i64 a0_0):=(blk_cell BK486.out 0).trans rfl;have hcz9_1:w8.cell? ⟨gb486,1,none⟩ = some (.bool a0_1):=(blk_cell BK486.out 1).trans rfl;have hcz9_2:w8.cell? ⟨gb486,2,none⟩ = some (.int .i64 a0_2):=(blk_cell BK486.out 2).trans rfl;have hfz9_0:=blk_frozen BK486.out 0;have hfz9_1:=blk_frozen BK486.out 1;have hfz9_2:=blk_frozen BK486.out 2) | (go_at_call 46;(with_reducible refine (impl_TemplateOf.calls k a0_0 a0_1 t487 _ A3.out).mono ?_);rintro e w10 ⟨rfl,hb⟩;have n0_:=Aside0.mk (blk_below (g:=gb486) (o:=.cells #[.int .i64 a0_0,.bool a0_1,.int .i64 a0_2] 30 (0,0)) q83_ hb);have n1_:=Aside0.mk (below_step q53_ hb);clear BK486;clear HB;have BK486:=n0_;have HB:=n1_;clear n0_ n1_;(try clear hb)) | (go_at_call 114;(with_reducible refine (strings_Cut.calls t487 (⟨#[32]⟩:ByteArray) t488 t489 t490 _ A4.out).mono ?_);rintro e w' ⟨rfl,⟨nd,rfl⟩⟩;(try first | exact ⟨rfl,_,World.drewN_drewN _ _ _⟩ | exact ⟨rfl,_,Eq.trans (World.drewN_drewN _ _ _) (congrArg (World.drewN _) (Nat.add_assoc _ _ _))⟩)) | (go_at_call 124;(with_reducible refine (impl_addrOf.calls a1 t491 _ A6.out).mono ?_);rintro e w' ⟨rfl,⟨nd,rfl⟩⟩;(try first | exact ⟨rfl,_,World.drewN_drewN _ _ _⟩ | exact ⟨rfl,_,Eq.trans (World.drewN_drewN _ _ _) (congrArg (World.drewN _) (Nat.add_assoc _ _ _))⟩);have hcz11_0:w10.cell? ⟨gb486,0,none⟩ = some (.int .i64 a0_0):=(blk_cell BK486.out 0).trans rfl;have hcz11_1:w10.cell? ⟨gb486,1,none⟩ = some (.bool a0_1):=(blk_cell BK486.out 1).trans rfl;have hcz11_2:w10.cell? ⟨gb486,2,none⟩ = some (.int .i64 a0_2):=(blk_cell BK486.out 2).trans rfl;have hfz11_0:=blk_frozen BK486.out 0;have hfz11_1:=blk_frozen BK486.out 1;have hfz11_2:=blk_frozen BK486.out 2) | (go_at_call 113;(with_reducible refine (impl_SignedOf.calls a0_2 t492 _ A7.out).mono ?_);rintro e w' ⟨rfl,⟨nd,rfl⟩⟩;(try first | exact ⟨rfl,_,World.drewN_drewN _ _ _⟩ | exact ⟨rfl,_,Eq.trans (World.drewN_drewN _ _ _) (congrArg (World.drewN _) (Nat.add_assoc _ _ _))⟩)))
  repeat (go_quiet (first | ((with_reducible refine gate_dst (N:=2) rfl ?_);refine box_event ?hg (N:=2) ?hd (cs:=#[.int .i64 a0_0,.bool a0_1,.int .i64 a0_2]) (t:=30) ?hr ?_;(case hd => rfl);(case hg => rfl);(case hr => exact q153_);intro gb486 hg w8 hbox hb;have n0_:=Aside0.mk (below_step q70_ hb);have n1_:=Aside0.mk (hbox);have n2_:=Aside0.mk ((q46_:w.heap.size ≤ gb486));have n3_:=Aside0.mk ((q46_:w.heap.size ≤ gb486));clear HB;have HB:=n0_;have BK486:=n1_;have GW486:=n2_;have GE486:=n3_;clear n0_ n1_ n2_ n3_;clear hb hbox hg;have hcz9_0:w8.cell? ⟨gb486,0,none⟩ = some (.int .i64 a0_0):=(blk_cell BK486.out 0).trans rfl;have hcz9_1:w8.cell? ⟨gb486,1,none⟩ = some (.bool a0_1):=(blk_cell BK486.out 1).trans rfl;have hcz9_2:w8.cell? ⟨gb486,2,none⟩ = some (.int .i64 a0_2):=(blk_cell BK486.out 2).trans rfl;have hfz9_0:=blk_frozen BK486.out 0;have hfz9_1:=blk_frozen BK486.out 1;have hfz9_2:=blk_frozen BK486.out 2) | (go_at_call 46;(with_reducible refine (impl_TemplateOf.calls k a0_0 a0_1 t487 _ A3.out).mono ?_);rintro e w10 ⟨rfl,hb⟩;have n0_:=Aside0.mk (blk_below (g:=gb486) (o:=.cells #[.int .i64 a0_0,.bool a0_1,.int .i64 a0_2] 30 (0,0)) q83_ hb);have n1_:=Aside0.mk (below_step q53_ hb);clear BK486;clear HB;have BK486:=n0_;have HB:=n1_;clear n0_ n1_;(try clear hb)) | (go_at_call 114;(with_reducible refine (strings_Cut.calls t487 (⟨#[32]⟩:ByteArray) t488 t489 t490 _ A4.out).mono ?_);rintro e w' ⟨rfl,⟨nd,rfl⟩⟩;(try first | exact ⟨rfl,_,World.drewN_drewN _ _ _⟩ | exact ⟨rfl,_,Eq.trans (World.drewN_drewN _ _ _) (congrArg (World.drewN _) (Nat.add_assoc _ _ _))⟩)) | (go_at_call 124;(with_reducible refine (impl_addrOf.calls a1 t491 _ A6.out).mono ?_);rintro e w' ⟨rfl,⟨nd,rfl⟩⟩;(try first | exact ⟨rfl,_,World.drewN_drewN _ _ _⟩ | exact ⟨rfl,_,Eq.trans (World.drewN_drewN _ _ _) (congrArg (World.drewN _) (Nat.add_assoc _ _ _))⟩);have hcz11_0:w10.cell? ⟨gb486,0,none⟩ = some (.int .i64 a0_0):=(blk_cell BK486.out 0).trans rfl;have hcz11_1:w10.cell? ⟨gb486,1,none⟩ = some (.bool a0_1):=(blk_cell BK486.out 1).trans rfl;have hcz11_2:w10.cell? ⟨gb486,2,none⟩ = some (.int .i64 a0_2):=(blk_cell BK486.out 2).trans rfl;have hfz11_0:=blk_frozen BK486.out 0;have hfz11_1:=blk_frozen BK486.out 1;have hfz11_2:=blk_frozen BK486.out 2) | (go_at_call 113;(with_reducible refine (impl_SignedOf.calls a0_2 t492 _ A7.out).mono ?_);rintro e w' ⟨rfl,⟨nd,rfl⟩⟩;(try first | exact ⟨rfl,_,World.drewN_drewN _ _ _⟩ | exact ⟨rfl,_,Eq.trans (World.drewN_drewN _ _ _) (congrArg (World.drewN _) (Nat.add_assoc _ _ _))⟩)));try go_wp2_with (first | ((with_reducible refine gate_dst (N:=2) rfl ?_);refine box_event ?hg (N:=2) ?hd (cs:=#[.int .i64 a0_0,.bool a0_1,.int .i64 a0_2]) (t:=30) ?hr ?_;(case hd => rfl);(case hg => rfl);(case hr => exact q153_);intro gb486 hg w8 hbox hb;have n0_:=Aside0.mk (below_step q70_ hb);have n1_:=Aside0.mk (hbox);have n2_:=Aside0.mk ((q46_:w.heap.size ≤ gb486));have n3_:=Aside0.mk ((q46_:w.heap.size ≤ gb486));clear HB;have HB:=n0_;have BK486:=n1_;have GW486:=n2_;have GE486:=n3_;clear n0_ n1_ n2_ n3_;clear hb hbox hg;have hcz9_0:w8.cell? ⟨gb486,0,none⟩ = some (.int .i64 a0_0):=(blk_cell BK486.out 0).trans rfl;have hcz9_1:w8.cell? ⟨gb486,1,none⟩ = some (.bool a0_1):=(blk_cell BK486.out 1).trans rfl;have hcz9_2:w8.cell? ⟨gb486,2,none⟩ = some (.int .i64 a0_2):=(blk_cell BK486.out 2).trans rfl;have hfz9_0:=blk_frozen BK486.out 0;have hfz9_1:=blk_frozen BK486.out 1;have hfz9_2:=blk_frozen BK486.out 2) | (go_at_call 46;(with_reducible refine (impl_TemplateOf.calls k a0_0 a0_1 t487 _ A3.out).mono ?_);rintro e w10 ⟨rfl,hb⟩;have n0_:=Aside0.mk (blk_below (g:=gb486) (o:=.cells #[.int .i64 a0_0,.bool a0_1,.int .i64 a0_2] 30 (0,0)) q83_ hb);have n1_:=Aside0.mk (below_step q53_ hb);clear BK486;clear HB;have BK486:=n0_;have HB:=n1_;clear n0_ n1_;(try clear hb)) | (go_at_call 114;(with_reducible refine (strings_Cut.calls t487 (⟨#[32]⟩:ByteArray) t488 t489 t490 _ A4.out).mono ?_);rintro e w' ⟨rfl,⟨nd,rfl⟩⟩;(try first | exact ⟨rfl,_,World.drewN_drewN _ _ _⟩ | exact ⟨rfl,_,Eq.trans (World.drewN_drewN _ _ _) (congrArg (World.drewN _) (Nat.add_assoc _ _ _))⟩)) | (go_at_call 124;(with_reducible refine (impl_addrOf.calls a1 t491 _ A6.out).mono ?_);rintro e w' ⟨rfl,⟨nd,rfl⟩⟩;(try first | exact ⟨rfl,_,World.drewN_drewN _ _ _⟩ | exact ⟨rfl,_,Eq.trans (World.drewN_drewN _ _ _) (congrArg (World.drewN _) (Nat.add_assoc _ _ _))⟩);have hcz11_0:w10.cell? ⟨gb486,0,none⟩ = some (.int .i64 a0_0):=(blk_cell BK486.out 0).trans rfl;have hcz11_1:w10.cell? ⟨gb486,1,none⟩ = some (.bool a0_1):=(blk_cell BK486.out 1).trans rfl;have hcz11_2:w10.cell? ⟨gb486,2,none⟩ = some (.int .i64 a0_2):=(blk_cell BK486.out 2).trans rfl;have hfz11_0:=blk_frozen BK486.out 0;have hfz11_1:=blk_frozen BK486.out 1;have hfz11_2:=blk_frozen BK486.out 2) | (go_at_call 113;(with_reducible refine (impl_SignedOf.calls a0_2 t492 _ A7.out).mono ?_);rintro e w' ⟨rfl,⟨nd,rfl⟩⟩;(try first | exact ⟨rfl,_,World.drewN_drewN _ _ _⟩ | exact ⟨rfl,_,Eq.trans (World.drewN_drewN _ _ _) (congrArg (World.drewN _) (Nat.add_assoc _ _ _))⟩))))
  go_ret2
  exact ⟨q54_,q53_⟩
 rw [if_neg c5] at H
 have c5b0:(t488.toList == ([106,114]:List UInt8)) = false:=beq_eq_false_iff_ne.mpr c5
 have c5b1:(t488.toList != ([106,114]:List UInt8)) = true:=bne_iff_ne.mpr c5
 have HC12:=Aside0.mk H
 clear H
 go_enter Tryz.func83,Tryz.ntmps83
 go_upto_region 5 with (first | ((with_reducible refine gate_dst (N:=2) rfl ?_);refine box_event ?hg (N:=2) ?hd (cs:=#[.int .i64 a0_0,.bool a0_1,.int .i64 a0_2]) (t:=30) ?hr ?_;(case hd => rfl);(case hg => rfl);(case hr => exact q153_);intro gb486 hg w13 hbox hb;have n0_:=Aside0.mk (below_step q70_ hb);have n1_:=Aside0.mk (hbox);have n2_:=Aside0.mk ((q46_:w.heap.size ≤ gb486));have n3_:=Aside0.mk ((q46_:w.heap.size ≤ gb486));clear HB;have HB:=n0_;have BK486:=n1_;have GW486:=n2_;have GE486:=n3_;clear n0_ n1_ n2_ n3_;clear hb hbox hg;have hcz14_0:w13.cell? ⟨gb486,0,none⟩ = some (.int .i64 a0_0):=(blk_cell BK486.out 0).trans rfl;have hcz14_1:w13.cell? ⟨gb486,1,none⟩ = some (.bool a0_1):=(blk_cell BK486.out 1).trans rfl;have hcz14_2:w13.cell? ⟨gb486,2,none⟩ = some (.int .i64 a0_2):=(blk_cell BK486.out 2).trans rfl;have hfz14_0:=blk_frozen BK486.out 0;have hfz14_1:=blk_frozen BK486.out 1;have hfz14_2:=blk_frozen BK486.out 2) | (go_at_call 46;(with_reducible refine (impl_TemplateOf.calls k a0_0 a0_1 t487 _ A3.out).mono ?_);rintro e w15 ⟨rfl,hb⟩;have n0_:=Aside0.mk (blk_below (g:=gb486) (o:=.cells #[.int .i64 a0_0,.bool a0_1,.int .i64 a0_2] 30 (0,0)) q83_ hb);have n1_:=Aside0.mk (below_step q53_ hb);clear BK486;clear HB;have BK486:=n0_;have HB:=n1_;clear n0_ n1_;(try clear hb)) | (go_at_call 114;(with_reducible refine (strings_Cut.calls t487 (⟨#[32]⟩:ByteArray) t488 t489 t490 _ A4.out).mono ?_);rintro e w' ⟨rfl,⟨nd,rfl⟩⟩;(try first | exact ⟨rfl,_,World.drewN_drewN _ _ _⟩ | exact ⟨rfl,_,Eq.trans (World.drewN_drewN _ _ _) (congrArg (World.drewN _) (Nat.add_assoc _ _ _))⟩)))
 repeat (go_quiet (first | ((with_reducible refine gate_dst (N:=2) rfl ?_);refine box_event ?hg (N:=2) ?hd (cs:=#[.int .i64 a0_0,.bool a0_1,.int .i64 a0_2]) (t:=30) ?hr ?_;(case hd => rfl);(case hg => rfl);(case hr => exact q153_);intro gb486 hg w13 hbox hb;have n0_:=Aside0.mk (below_step q70_ hb);have n1_:=Aside0.mk (hbox);have n2_:=Aside0.mk ((q46_:w.heap.size ≤ gb486));have n3_:=Aside0.mk ((q46_:w.heap.size ≤ gb486));clear HB;have HB:=n0_;have BK486:=n1_;have GW486:=n2_;have GE486:=n3_;clear n0_ n1_ n2_ n3_;clear hb hbox hg;have hcz14_0:w13.cell? ⟨gb486,0,none⟩ = some (.int .i64 a0_0):=(blk_cell BK486.out 0).trans rfl;have hcz14_1:w13.cell? ⟨gb486,1,none⟩ = some (.bool a0_1):=(blk_cell BK486.out 1).trans rfl;have hcz14_2:w13.cell? ⟨gb486,2,none⟩ = some (.int .i64 a0_2):=(blk_cell BK486.out 2).trans rfl;have hfz14_0:=blk_frozen BK486.out 0;have hfz14_1:=blk_frozen BK486.out 1;have hfz14_2:=blk_frozen BK486.out 2) | (go_at_call 46;(with_reducible refine (impl_TemplateOf.calls k a0_0 a0_1 t487 _ A3.out).mono ?_);rintro e w15 ⟨rfl,hb⟩;have n0_:=Aside0.mk (blk_below (g:=gb486) (o:=.cells #[.int .i64 a0_0,.bool a0_1,.int .i64 a0_2] 30 (0,0)) q83_ hb);have n1_:=Aside0.mk (below_step q53_ hb);clear BK486;clear HB;have BK486:=n0_;have HB:=n1_;clear n0_ n1_;(try clear hb)) | (go_at_call 114;(with_reducible refine (strings_Cut.calls t487 (⟨#[32]⟩:ByteArray) t488 t489 t490 _ A4.out).mono ?_);rintro e w' ⟨rfl,⟨nd,rfl⟩⟩;(try first | exact ⟨rfl,_,World.drewN_drewN _ _ _⟩ | exact ⟨rfl,_,Eq.trans (World.drewN_drewN _ _ _) (congrArg (World.drewN _) (Nat.add_assoc _ _ _))⟩)));go_upto_region 5 with (first | ((with_reducible refine gate_dst (N:=2) rfl ?_);refine box_event ?hg (N:=2) ?hd (cs:=#[.int .i64 a0_0,.bool a0_1,.int .i64 a0_2]) (t:=30) ?hr ?_;(case hd => rfl);(case hg => rfl);(case hr => exact q153_);intro gb486 hg w13 hbox hb;have n0_:=Aside0.mk (below_step q70_ hb);have n1_:=Aside0.mk (hbox);have n2_:=Aside0.mk ((q46_:w.heap.size ≤ gb486));have n3_:=Aside0.mk ((q46_:w.heap.size ≤ gb486));clear HB;have HB:=n0_;have BK486:=n1_;have GW486:=n2_;have GE486:=n3_;clear n0_ n1_ n2_ n3_;clear hb hbox hg;have hcz14_0:w13.cell? ⟨gb486,0,none⟩ = some (.int .i64 a0_0):=(blk_cell BK486.out 0).trans rfl;have hcz14_1:w13.cell? ⟨gb486,1,none⟩ = some (.bool a0_1):=(blk_cell BK486.out 1).trans rfl;have hcz14_2:w13.cell? ⟨gb486,2,none⟩ = some (.int .i64 a0_2):=(blk_cell BK486.out 2).trans rfl;have hfz14_0:=blk_frozen BK486.out 0;have hfz14_1:=blk_frozen BK486.out 1;have hfz14_2:=blk_frozen BK486.out 2) | (go_at_call 46;(with_reducible refine (impl_TemplateOf.calls k a0_0 a0_1 t487 _ A3.out).mono ?_);rintro e w15 ⟨rfl,hb⟩;have n0_:=Aside0.mk (blk_below (g:=gb486) (o:=.cells #[.int .i64 a0_0,.bool a0_1,.int .i64 a0_2] 30 (0,0)) q83_ hb);have n1_:=Aside0.mk (below_step q53_ hb);clear BK486;clear HB;have BK486:=n0_;have HB:=n1_;clear n0_ n1_;(try clear hb)) | (go_at_call 114;(with_reducible refine (strings_Cut.calls t487 (⟨#[32]⟩:ByteArray) t488 t489 t490 _ A4.out).mono ?_);rintro e w' ⟨rfl,⟨nd,rfl⟩⟩;(try first | exact ⟨rfl,_,World.drewN_drewN _ _ _⟩ | exact ⟨rfl,_,Eq.trans (World.drewN_drewN _ _ _) (congrArg (World.drewN _) (Nat.add_assoc _ _ _))⟩))))
 (try simp only [Act.put,List.setIfInBounds_toArray,List.set_cons_zero,List.set_cons_succ])
 go_cut [31] (fun v31 wc => ∃ (kq:Nat) (x31_11:Bool),v31 = .bool x31_11 ∧ Aside0 (impl_jumps.j0 kq t488 x31_11 a0_0 a0_1 a0_2 = some (r1,r2)) ∧ Aside0 (kq ≤ k) ∧ Aside0 (wc.heap[gb486]? = some (.cells #[.int .i64 a0_0,.bool a0_1,.int .i64 a0_2] 30 (0,0))) ∧ Aside0 (Below w.heap.size w wc))
 case first =>
  have H:=HC12.out
  clear HC12
  by_cases c16:t488.toList = ([106,112]:List UInt8)
  ·rw [if_pos c16] at H
   have c16b0:(t488.toList == ([106,112]:List UInt8)) = true:=beq_iff_eq.mpr c16
   have c16b1:(t488.toList != ([106,112]:List UInt8)) = false:=bne_eq_false_iff_eq.mpr c16
   clear c16
   (first | rw [c16b0] | (simp only [i64_w,i32_w];rw [c16b0]) | skip)
   have H':=Aside0.mk H
   clear H
   go_wp2
   repeat (go_quiet (fail);try go_wp2)
   go_meet
   case rel => exact ⟨_,((t489.toList != ([104,108]:List UInt8))),q94_,H',⟨q132_⟩,⟨q83_⟩,⟨q53_⟩⟩
  rw [if_neg c16] at H
  have c16b0:(t488.toList == ([106,112]:List UInt8)) = false:=beq_eq_false_iff_ne.mpr c16
  have c16b1:(t488.toList != ([106,112]:List UInt8)) = true:=bne_iff_ne.mpr c16
  (first | rw [c16b0] | (simp only [i64_w,i32_w];rw [c16b0]) | skip)
  by_cases c17:t488.toList = ([99,97,108,108]:List UInt8)
  ·rw [if_pos c17] at H
   have c17b0:(t488.toList == ([99,97,108,108]:List UInt8)) = true:=beq_iff_eq.mpr c17
   have c17b1:(t488.toList != ([99,97,108,108]:List UInt8)) = false:=bne_eq_false_iff_eq.mpr c17
   clear c17
   have H':=Aside0.mk H
   clear H
   go_wp2
   repeat (go_quiet (fail);try go_wp2)
   go_meet
   case rel => exact ⟨_,((t489.toList != ([104,108]:List UInt8))),q94_,H',⟨q132_⟩,⟨q83_⟩,⟨q53_⟩⟩
  rw [if_neg c17] at H
  have c17b0:(t488.toList == ([99,97,108,108]:List UInt8)) = false:=beq_eq_false_iff_ne.mpr c17
  have c17b1:(t488.toList != ([99,97,108,108]:List UInt8)) = true:=bne_iff_ne.mpr c17
  have H':=Aside0.mk H
  clear H
  go_wp2
  repeat (go_quiet (fail);try go_wp2)
  go_meet
  case rel => exact ⟨_,(false),q94_,H',⟨q132_⟩,⟨q83_⟩,⟨q53_⟩⟩
 clear HC12
 try clear c1
 try clear p2
 try clear c5
 try clear c5b0
 try clear c5b1
 try clear p6
 try clear c8
 try clear c16
 try clear c16b0
 try clear c16b1
 try clear c17
 try clear c17b0
 try clear c17b1
 try clear hcz11_0 hcz11_1 hcz11_2
 try clear hcz14_0 hcz14_1 hcz14_2
 try clear hcz9_0 hcz9_1 hcz9_2
 try clear hfz11_0 hfz11_1 hfz11_2
 try clear hfz14_0 hfz14_1 hfz14_2
 try clear hfz9_0 hfz9_1 hfz9_2
 obtain ⟨kq,x31_11,rfl,HA,HJ11,BK486,HB⟩:=hcut
 cases kq with
 | zero => exact absurd HA.out (by simp [impl_jumps.j0])
 | succ kj11 =>
  have H:=HA.out
  clear HA
  simp only [impl_jumps.j0] at H
  by_cases c18:x31_11 = true
  ·subst c18
   rewrite [if_pos rfl] at H
   simp only [Option.some.injEq,Prod.mk.injEq] at H
   obtain ⟨rfl,rfl⟩:=H
   have hcz19_0:wc.cell? ⟨gb486,0,none⟩ = some (.int .i64 a0_0):=bz_ BK486 0
   have hcz19_1:wc.cell? ⟨gb486,1,none⟩ = some (.bool a0_1):=bz_ BK486 1
   have hcz19_2:wc.cell? ⟨gb486,2,none⟩ = some (.int .i64 a0_2):=bz_ BK486 2
   have hfz19_0:=blk_frozen BK486.out 0
   have hfz19_1:=blk_frozen BK486.out 1
   have hfz19_2:=blk_frozen BK486.out 2
   go_wp2
   repeat (go_quiet (fail);try go_wp2)
   go_ret2
   exact ⟨q54_,q53_⟩
  replace c18:=Bool.eq_false_iff.mpr c18
  subst c18
  rewrite [if_neg (show ¬ (false = true) by decide)] at H
  by_cases c20:t488.toList = ([114,115,116]:List UInt8)
  ·rw [if_pos c20] at H
   have c20b0:(t488.toList == ([114,115,116]:List UInt8)) = true:=beq_iff_eq.mpr c20
   have c20b1:(t488.toList != ([114,115,116]:List UInt8)) = false:=bne_eq_false_iff_eq.mpr c20
   clear c20
   simp only [Option.some.injEq,Prod.mk.injEq] at H
   obtain ⟨rfl,rfl⟩:=H
   have hcz21_0:wc.cell? ⟨gb486,0,none⟩ = some (.int .i64 a0_0):=bz_ BK486 0
   have hcz21_1:wc.cell? ⟨gb486,1,none⟩ = some (.bool a0_1):=bz_ BK486 1
   have hcz21_2:wc.cell? ⟨gb486,2,none⟩ = some (.int .i64 a0_2):=bz_ BK486 2
   have hfz21_0:=blk_frozen BK486.out 0
   have hfz21_1:=blk_frozen BK486.out 1
   have hfz21_2:=blk_frozen BK486.out 2
   go_wp2
   repeat (go_quiet (fail);try go_wp2)
   go_ret2
   exact ⟨q54_,q53_⟩
  rw [if_neg c20] at H
  have c20b0:(t488.toList == ([114,115,116]:List UInt8)) = false:=beq_eq_false_iff_ne.mpr c20
  have c20b1:(t488.toList != ([114,115,116]:List UInt8)) = true:=bne_iff_ne.mpr c20
  simp only [Option.some.injEq,Prod.mk.injEq] at H
  obtain ⟨rfl,rfl⟩:=H
  go_wp2
  repeat (go_quiet (fail);try go_wp2)
  go_ret2
  exact ⟨q54_,q53_⟩
def impl_placeFrom.f (a0:Int) (a1:Int):Option (Int):=(impl_within.f a0 0 255).bind fun t493 => (if t493 = true then (some a0) else ((impl_within.f a0 256 511).bind fun t494 => (if t494 = true then (if a1 > 0 then (some (wrap64 ((wrap64 ((wrap64 (a1 * 256)) + a0)) - 256))) else (some (-1))) else (some (-1)))))
theorem impl_placeFrom.calls (a0:Int) (a1:Int) (r:Int) (w:World) (h:impl_placeFrom.f a0 a1 = some r) :
  Calls Tryz.prog 84 #[.int .i64 a0,.int .i64 a1] w fun e w' => e = .returned (.int .i64 r) ∧ Drawn0 w w':=by
 have H:=h;unfold impl_placeFrom.f at H
 clear h
 replace H:=Option.bind_eq_some_iff.mp H
 obtain ⟨t493,A30,H⟩:=H
 have A3:=Aside0.mk A30
 clear A30
 by_cases c4:t493 = true
 ·subst c4
  rewrite [if_pos rfl] at H
  obtain rfl:=Option.some.inj H
  go_enter Tryz.func84,Tryz.ntmps84
  go_wp2_with (first | ((with_reducible refine gate_callee (f:=61) rfl ?_);refine goesL_ (some 7) rfl rfl Tryz.func61 (by kernel_rfl) rfl #[.int .i64 a0,.int .i64 0,.int .i64 255] rfl q68_ ?_;(with_reducible refine (impl_within.calls a0 0 255 true _ A3.out).mono ?_);rintro e w' ⟨rfl,⟨nd,rfl⟩⟩;refine ⟨_,rfl,?_⟩))
  go_ret
  exact ⟨q94_,q117_⟩
 replace c4:=Bool.eq_false_iff.mpr c4
 subst c4
 rewrite [if_neg (show ¬ (false = true) by decide)] at H
 replace H:=Option.bind_eq_some_iff.mp H
 obtain ⟨t494,A50,H⟩:=H
 have A5:=Aside0.mk A50
 clear A50
 by_cases c6:t494 = true
 ·subst c6
  rewrite [if_pos rfl] at H
  by_cases c7:a1 > 0
  ·rw [if_pos c7] at H
   have c7b0:decide (0 < a1) = true:=decide_eq_true c7
   clear c7
   obtain rfl:=Option.some.inj H
   go_enter Tryz.func84,Tryz.ntmps84
   go_wp2_with (first | ((with_reducible refine gate_callee (f:=61) rfl ?_);refine goesL_ (some 7) rfl rfl Tryz.func61 (by kernel_rfl) rfl #[.int .i64 a0,.int .i64 0,.int .i64 255] rfl q68_ ?_;(with_reducible refine (impl_within.calls a0 0 255 false _ A3.out).mono ?_);rintro e w' ⟨rfl,⟨nd,rfl⟩⟩;refine ⟨_,rfl,?_⟩) | ((with_reducible refine gate_callee (f:=61) rfl ?_);refine goesL_ (some 11) rfl rfl Tryz.func61 (by kernel_rfl) rfl #[.int .i64 a0,.int .i64 256,.int .i64 511] rfl q68_ ?_;(with_reducible refine (impl_within.calls a0 256 511 true _ A5.out).mono ?_);rintro e w' ⟨rfl,⟨nd,rfl⟩⟩;refine ⟨_,rfl,?_⟩))
   go_ret
   exact ⟨q94_,q117_⟩
  rw [if_neg c7] at H
  have c7b0:decide (0 < a1) = false:=decide_eq_false c7
  clear c7
  obtain rfl:=Option.some.inj H
  go_enter Tryz.func84,Tryz.ntmps84
  go_wp2_with (first | ((with_reducible refine gate_callee (f:=61) rfl ?_);refine goesL_ (some 7) rfl rfl Tryz.func61 (by kernel_rfl) rfl #[.int .i64 a0,.int .i64 0,.int .i64 255] rfl q68_ ?_;(with_reducible refine (impl_within.calls a0 0 255 false _ A3.out).mono ?_);rintro e w' ⟨rfl,⟨nd,rfl⟩⟩;refine ⟨_,rfl,?_⟩) | ((with_reducible refine gate_callee (f:=61) rfl ?_);refine goesL_ (some 11) rfl rfl Tryz.func61 (by kernel_rfl) rfl #[.int .i64 a0,.int .i64 256,.int .i64 511] rfl q68_ ?_;(with_reducible refine (impl_within.calls a0 256 511 true _ A5.out).mono ?_);rintro e w' ⟨rfl,⟨nd,rfl⟩⟩;refine ⟨_,rfl,?_⟩))
  go_ret
  exact ⟨q94_,q117_⟩
 replace c6:=Bool.eq_false_iff.mpr c6
 subst c6
 rewrite [if_neg (show ¬ (false = true) by decide)] at H
 obtain rfl:=Option.some.inj H
 go_enter Tryz.func84,Tryz.ntmps84
 go_wp2_with (first | ((with_reducible refine gate_callee (f:=61) rfl ?_);refine goesL_ (some 7) rfl rfl Tryz.func61 (by kernel_rfl) rfl #[.int .i64 a0,.int .i64 0,.int .i64 255] rfl q68_ ?_;(with_reducible refine (impl_within.calls a0 0 255 false _ A3.out).mono ?_);rintro e w' ⟨rfl,⟨nd,rfl⟩⟩;refine ⟨_,rfl,?_⟩) | ((with_reducible refine gate_callee (f:=61) rfl ?_);refine goesL_ (some 11) rfl rfl Tryz.func61 (by kernel_rfl) rfl #[.int .i64 a0,.int .i64 256,.int .i64 511] rfl q68_ ?_;(with_reducible refine (impl_within.calls a0 256 511 false _ A5.out).mono ?_);rintro e w' ⟨rfl,⟨nd,rfl⟩⟩;refine ⟨_,rfl,?_⟩))
 go_ret
 exact ⟨q94_,q117_⟩
end Go.Proofs.YtodlnnoekccmmaaGreatDoor.QFnMarks
