/- The machine's side of a law,written by a program of this session for this claim. -/
import Derived.Test.YtodlnnoekccmmaaGreatDoorKQq
import Derived.Test.YtodlnnoekccmmaaGreatDoorKQFnMarksx0
import Derived.Test.YtodlnnoekccmmaaGreatDoorKQFnMarksx7
import Derived.Test.YtodlnnoekccmmaaGreatDoorKQFnMarksx8
import Derived.Test.YtodlnnoekccmmaaGreatDoorKQFnMarksx10
namespace Go.Proofs.YtodlnnoekccmmaaGreatDoor.QFnMarks
open Go.Proofs.YtodlnnoekccmmaaGreatDoor.Qq
open Go.RowKit Go.Proofs.YtodlnnoekccmmaaGreatDoor.LibX Go.Proofs.YtodlnnoekccmmaaGreatDoor.LibE Go.Proofs.YtodlnnoekccmmaaGreatDoor.LibCB Go.Proofs.YtodlnnoekccmmaaGreatDoorW.PrintWords Go.Proofs.YtodlnnoekccmmaaGreatDoorW.PrintLast Go.Proofs.YtodlnnoekccmmaaGreatDoorW.PrintMore
attribute [local go_sem] max2_int min2_int max_two min_two max_three min_three max_four min_four   -- for this text's walks alone
set_option maxHeartbeats 8000000
set_option maxRecDepth 100000
set_option linter.unusedVariables false
set_option linter.unusedSimpArgs false
def spec_l3Length.f (k:Nat) (a0:Int) (a1:Bool):Option (Int):=(spec_l3Template.f k a0 a1).bind fun t405 => (if t405.toList = ([]:List UInt8) then (some 0) else (if a1 = true then (some 2) else ((spec_l3Hole.f k t405).bind fun bt406 => (if bt406.2.toList = ([]:List UInt8) then (some 1) else (if bt406.2.toList = ([110,49,54]:List UInt8) then (some 3) else (some 2))))))
theorem spec_l3Length.calls (k:Nat) (a0:Int) (a1:Bool) (r:Int) (w:World) (h:spec_l3Length.f k a0 a1 = some r) :
  Calls Tryz.prog 52 #[.int .i64 a0,.bool a1] w fun e w' => e = .returned (.int .i64 r) ∧ Below w.heap.size w w':=by
 have HB:=Aside0.mk (Below.refl w.heap.size w)
 have H:=h;unfold spec_l3Length.f at H
 clear h
 replace H:=Option.bind_eq_some_iff.mp H
 obtain ⟨t405,A30,H⟩:=H
 have A3:=Aside0.mk A30
 clear A30
 by_cases c4:t405.toList = ([]:List UInt8)
 ·rw [if_pos c4] at H
  have c4b0:(t405.toList == ([]:List UInt8)) = true:=beq_iff_eq.mpr c4
  have c4b1:(t405.toList != ([]:List UInt8)) = false:=bne_eq_false_iff_eq.mpr c4
  clear c4
  obtain rfl:=Option.some.inj H
  go_enter Tryz.func52,Tryz.ntmps52
  go_wp2_with (first | ((with_reducible refine gate_callee (f:=60) rfl ?_);refine goesL_ (some 10) rfl rfl Tryz.func60 (by kernel_rfl) rfl #[.int .i64 a0,.bool a1] rfl q68_ ?_;(with_reducible refine (spec_l3Template.calls k a0 a1 t405 _ A3.out).mono ?_);rintro e w5 ⟨rfl,hb⟩;refine ⟨_,rfl,?_⟩;replace HB:=Aside0.mk (below_step q70_ hb);(try clear hb)))
  go_ret
  exact ⟨q75_,q70_⟩
 rw [if_neg c4] at H
 have c4b0:(t405.toList == ([]:List UInt8)) = false:=beq_eq_false_iff_ne.mpr c4
 have c4b1:(t405.toList != ([]:List UInt8)) = true:=bne_iff_ne.mpr c4
 by_cases c6:a1 = true
 ·subst c6
  rewrite [if_pos rfl] at H
  obtain rfl:=Option.some.inj H
  go_enter Tryz.func52,Tryz.ntmps52
  go_wp2_with (first | ((with_reducible refine gate_callee (f:=60) rfl ?_);refine goesL_ (some 10) rfl rfl Tryz.func60 (by kernel_rfl) rfl #[.int .i64 a0,.bool true] rfl q68_ ?_;(with_reducible refine (spec_l3Template.calls k a0 true t405 _ A3.out).mono ?_);rintro e w7 ⟨rfl,hb⟩;refine ⟨_,rfl,?_⟩;replace HB:=Aside0.mk (below_step q70_ hb);(try clear hb)))
  go_ret
  exact ⟨q75_,q70_⟩
 replace c6:=Bool.eq_false_iff.mpr c6
 subst c6
 rewrite [if_neg (show ¬ (false = true) by decide)] at H
 replace H:=Option.bind_eq_some_iff.mp H
 obtain ⟨⟨t406,t407⟩,A80,H⟩:=H
 try dsimp -simprocs -eta only at H
 have A8:=Aside0.mk A80
 clear A80
 by_cases c9:t407.toList = ([]:List UInt8)
 ·rw [if_pos c9] at H
  have c9b0:(t407.toList == ([]:List UInt8)) = true:=beq_iff_eq.mpr c9
  have c9b1:(t407.toList != ([]:List UInt8)) = false:=bne_eq_false_iff_eq.mpr c9
  clear c9
  obtain rfl:=Option.some.inj H
  go_enter Tryz.func52,Tryz.ntmps52
  go_wp2_with (first | ((with_reducible refine gate_callee (f:=60) rfl ?_);refine goesL_ (some 10) rfl rfl Tryz.func60 (by kernel_rfl) rfl #[.int .i64 a0,.bool false] rfl q68_ ?_;(with_reducible refine (spec_l3Template.calls k a0 false t405 _ A3.out).mono ?_);rintro e w10 ⟨rfl,hb⟩;refine ⟨_,rfl,?_⟩;replace HB:=Aside0.mk (below_step q70_ hb);(try clear hb)) | ((with_reducible refine gate_callee (f:=59) rfl ?_);refine goesL_ (some 16) rfl rfl Tryz.func59 (by kernel_rfl) rfl #[.string t405] rfl q68_ ?_;(with_reducible refine (spec_l3Hole.calls k t405 t406 t407 _ A8.out).mono ?_);rintro e w11 ⟨rfl,hb⟩;refine ⟨_,rfl,?_⟩;replace HB:=Aside0.mk (below_step q70_ hb);(try clear hb)))
  go_ret
  exact ⟨q75_,q70_⟩
 rw [if_neg c9] at H
 have c9b0:(t407.toList == ([]:List UInt8)) = false:=beq_eq_false_iff_ne.mpr c9
 have c9b1:(t407.toList != ([]:List UInt8)) = true:=bne_iff_ne.mpr c9
 by_cases c12:t407.toList = ([110,49,54]:List UInt8)
 ·rw [if_pos c12] at H
  have c12b0:(t407.toList == ([110,49,54]:List UInt8)) = true:=beq_iff_eq.mpr c12
  have c12b1:(t407.toList != ([110,49,54]:List UInt8)) = false:=bne_eq_false_iff_eq.mpr c12
  clear c12
  obtain rfl:=Option.some.inj H
  go_enter Tryz.func52,Tryz.ntmps52
  go_wp2_with (first | ((with_reducible refine gate_callee (f:=60) rfl ?_);refine goesL_ (some 10) rfl rfl Tryz.func60 (by kernel_rfl) rfl #[.int .i64 a0,.bool false] rfl q68_ ?_;(with_reducible refine (spec_l3Template.calls k a0 false t405 _ A3.out).mono ?_);rintro e w13 ⟨rfl,hb⟩;refine ⟨_,rfl,?_⟩;replace HB:=Aside0.mk (below_step q70_ hb);(try clear hb)) | ((with_reducible refine gate_callee (f:=59) rfl ?_);refine goesL_ (some 16) rfl rfl Tryz.func59 (by kernel_rfl) rfl #[.string t405] rfl q68_ ?_;(with_reducible refine (spec_l3Hole.calls k t405 t406 t407 _ A8.out).mono ?_);rintro e w14 ⟨rfl,hb⟩;refine ⟨_,rfl,?_⟩;replace HB:=Aside0.mk (below_step q70_ hb);(try clear hb)))
  go_ret
  exact ⟨q75_,q70_⟩
 rw [if_neg c12] at H
 have c12b0:(t407.toList == ([110,49,54]:List UInt8)) = false:=beq_eq_false_iff_ne.mpr c12
 have c12b1:(t407.toList != ([110,49,54]:List UInt8)) = true:=bne_iff_ne.mpr c12
 obtain rfl:=Option.some.inj H
 go_enter Tryz.func52,Tryz.ntmps52
 go_wp2_with (first | ((with_reducible refine gate_callee (f:=60) rfl ?_);refine goesL_ (some 10) rfl rfl Tryz.func60 (by kernel_rfl) rfl #[.int .i64 a0,.bool false] rfl q68_ ?_;(with_reducible refine (spec_l3Template.calls k a0 false t405 _ A3.out).mono ?_);rintro e w15 ⟨rfl,hb⟩;refine ⟨_,rfl,?_⟩;replace HB:=Aside0.mk (below_step q70_ hb);(try clear hb)) | ((with_reducible refine gate_callee (f:=59) rfl ?_);refine goesL_ (some 16) rfl rfl Tryz.func59 (by kernel_rfl) rfl #[.string t405] rfl q68_ ?_;(with_reducible refine (spec_l3Hole.calls k t405 t406 t407 _ A8.out).mono ?_);rintro e w16 ⟨rfl,hb⟩;refine ⟨_,rfl,?_⟩;replace HB:=Aside0.mk (below_step q70_ hb);(try clear hb)))
 go_ret
 exact ⟨q75_,q70_⟩
def spec_l3At.f (a0:ByteArray) (a1:Int):Option (Int):=if 0 ≤ a1 then (if a1 < (a0.size:Int) then (some (wrap64 (bt a0 a1))) else (none)) else (none)
theorem spec_l3At.calls (a0:ByteArray) (a1:Int) (r:Int) (w:World) (h:spec_l3At.f a0 a1 = some r) :
  Calls Tryz.prog 63 #[.string a0,.int .i64 a1] w fun e w' => e = .returned (.int .i64 r) ∧ Drawn0 w w':=by
 have H:=h;unfold spec_l3At.f at H
 clear h
 by_cases c3:0 ≤ a1
 rotate_left
 ·rw [if_neg c3] at H
  exact absurd H (by simp)
 rw [if_pos c3] at H
 have c3b0:=decide_eq_true c3
 clear c3
 by_cases c4:a1 < (a0.size:Int)
 rotate_left
 ·rw [if_neg c4] at H
  exact absurd H (by simp)
 rw [if_pos c4] at H
 have c4b0:=decide_eq_true c4
 clear c4
 obtain rfl:=Option.some.inj H
 have p5:0 ≤ (a1:Int):=of_decide_eq_true q119_
 have q5:a1 < (a0.size:Int):=of_decide_eq_true q119_
 have hx5:=bt_at a0 a1
 replace p5:=eq_true p5
 replace q5:=eq_true q5
 go_enter Tryz.func63,Tryz.ntmps63
 go_wp2
 go_ret
 exact ⟨q94_,q117_⟩
mutual
def spec_ReadIns.j0:Nat → ByteArray → Int → Int → Bool → Option (Int × Bool × Int × Int)
 | 0,_,_,_,_ => none
 | k + 1,x0,x1,x6,x18 => if x18 = true then (some (0,false,0,0)) else ((spec_l3At.f x0 x1).bind fun t409 => (if t409 = 203 then (if x6 < 2 then (some (0,false,0,0)) else ((spec_l3At.f x0 (wrap64 (x1 + 1))).bind fun t411 => (some (t411,true,0,2)))) else ((spec_l3Length.f k t409 false).bind fun t412 => (if t412 = 0 then (spec_ReadIns.j1 k x0 x1 t412 true t409 false 0) else (spec_ReadIns.j1 k x0 x1 t412 (decide (t412 > x6)) t409 false 0)))))
def spec_ReadIns.j1:Nat → ByteArray → Int → Int → Bool → Int → Bool → Int → Option (Int × Bool × Int × Int)
 | 0,_,_,_,_,_,_,_ => none
 | k + 1,x0,x1,x8,x44,x411000,x411001,x411002 => if x44 = true then (some (0,false,0,0)) else (if x8 > 1 then ((spec_l3At.f x0 (wrap64 (x1 + 1))).bind fun t413 => (spec_ReadIns.j2 k x0 x1 x8 x411000 x411001 t413)) else (spec_ReadIns.j2 k x0 x1 x8 x411000 x411001 x411002))
def spec_ReadIns.j2:Nat → ByteArray → Int → Int → Int → Bool → Int → Option (Int × Bool × Int × Int)
 | 0,_,_,_,_,_,_ => none
 | k + 1,x0,x1,x8,x411000,x411001,x411002 => if x8 > 2 then ((spec_l3At.f x0 (wrap64 (x1 + 2))).bind fun t414 => (some (x411000,x411001,wrap64 (x411002 + (wrap64 (256 * t414))),x8))) else (some (x411000,x411001,x411002,x8))
end
def spec_ReadIns.f (k:Nat) (a0:ByteArray) (a1:Int):Option (Int × Bool × Int × Int):=if a1 < 0 then (spec_ReadIns.j0 k a0 a1 (wrap64 ((a0.size:Int) - a1)) true) else (spec_ReadIns.j0 k a0 a1 (wrap64 ((a0.size:Int) - a1)) (decide ((wrap64 ((a0.size:Int) - a1)) < 1)))
def spec_ReadIns.T15:Bool × List (List Nat × List Nat):=(true,[([],[]),([0],[0]),([],[]),([],[]),([3],[3]),([2,4],[2,4]),([5],[5]),([1,6],[1,6]),([0,1,2,3,4,5,6,7],[]),([8,7,5,0,1,2,3,4,5,6,7],[7,8])])
def spec_ReadIns.B15:List Nat:=[0,1,0,0,8,28,60,127,255,511]
theorem spec_ReadIns.tab15:rtab .any (opsOf Tryz.f24 15) = spec_ReadIns.T15:=by kernel_rfl
theorem spec_ReadIns.bits15:waitsOk spec_ReadIns.T15.2 spec_ReadIns.B15 = true:=by kernel_rfl
theorem spec_ReadIns.calls (k:Nat) (a0:ByteArray) (a1:Int) (r1:Int) (r2:Bool) (r3:Int) (r4:Int) (w:World) (h:spec_ReadIns.f k a0 a1 = some (r1,r2,r3,r4)) :
  Calls Tryz.prog 24 #[.string a0,.int .i64 a1] w fun e w' => e = .returned (.tuple #[.agg #[.int .i64 r1,.bool r2,.int .i64 r3],.int .i64 r4]) ∧ Below w.heap.size w w':=by
 have hu30:=Tryz.underlying30
 have HB:=Aside0.mk (Below.refl w.heap.size w)
 have H:=h;unfold spec_ReadIns.f at H
 clear h
 have HC3:=Aside0.mk H
 clear H
 go_enter Tryz.func24,Tryz.ntmps24
 go_upto_region 2 with (first | ((with_reducible refine gate_dst (N:=4) rfl ?_);refine box_event ?hg (N:=4) ?hd (cs:=#[.int .i64 0,.bool false,.int .i64 0]) (t:=30) ?hr ?_;(case hd => rfl);(case hg => rfl);(case hr => exact q153_);intro gb408 hg w4 hbox hb;have n0_:=Aside0.mk (below_step q70_ hb);have n1_:=Aside0.mk (hbox);have n2_:=Aside0.mk ((q46_:w.heap.size ≤ gb408));have n3_:=Aside0.mk ((q46_:w.heap.size ≤ gb408));clear HB;have HB:=n0_;have BK408:=n1_;have GW408:=n2_;have GE408:=n3_;clear n0_ n1_ n2_ n3_;clear hb hbox hg))
 (try simp only [Act.put,List.setIfInBounds_toArray,List.set_cons_zero,List.set_cons_succ])
 go_cut [18] (fun v18 wc => ∃ (kq:Nat) (x18_2:Bool),v18 = .bool x18_2 ∧ Aside0 (spec_ReadIns.j0 kq a0 a1 (wrap64 ((a0.size:Int) - a1)) x18_2 = some (r1,r2,r3,r4)) ∧ Aside0 (kq ≤ k) ∧ Aside0 (wc.heap[gb408]? = some (.cells #[.int .i64 0,.bool false,.int .i64 0] 30 (0,0))) ∧ Aside0 (Below w.heap.size w wc))
 case first =>
  have H:=HC3.out
  clear HC3
  by_cases c5:a1 < 0
  ·rw [if_pos c5] at H
   have c5b0:=decide_eq_true c5
   clear c5
   (first | rw [c5b0] | (simp only [i64_w,i32_w];rw [c5b0]) | skip)
   have H':=Aside0.mk H
   clear H
   go_wp2
   go_meet
   case rel => exact ⟨_,(true),q94_,H',⟨q132_⟩,⟨q78_⟩,⟨q48_⟩⟩
  rw [if_neg c5] at H
  have c5b0:=decide_eq_false c5
  clear c5
  (first | rw [c5b0] | (simp only [i64_w,i32_w];rw [c5b0]) | skip)
  have H':=Aside0.mk H
  clear H
  go_wp2
  go_meet
  case rel => exact ⟨_,(decide ((wrap64 ((a0.size:Int) - a1)) < 1)),q94_,H',⟨q132_⟩,⟨q78_⟩,⟨q48_⟩⟩
 clear HC3
 try clear c2
 try clear p2
 try clear c5
 try clear c5b0
 obtain ⟨kq,x18_2,rfl,HA,HJ2,BK408,HB⟩:=hcut
 cases kq with
 | zero => exact absurd HA.out (by simp [spec_ReadIns.j0])
 | succ kj2 =>
  have H:=HA.out
  clear HA
  simp only [spec_ReadIns.j0] at H
  by_cases c6:x18_2 = true
  ·subst c6
   rewrite [if_pos rfl] at H
   simp only [Option.some.injEq,Prod.mk.injEq] at H
   obtain ⟨rfl,rfl,rfl,rfl⟩:=H
   have hcz7_0:wc.cell? ⟨gb408,0,none⟩ = some (.int .i64 0):=bz_ BK408 0
   have hcz7_1:wc.cell? ⟨gb408,1,none⟩ = some (.bool false):=bz_ BK408 1
   have hcz7_2:wc.cell? ⟨gb408,2,none⟩ = some (.int .i64 0):=bz_ BK408 2
   have hfz7_0:=blk_frozen BK408.out 0
   have hfz7_1:=blk_frozen BK408.out 1
   have hfz7_2:=blk_frozen BK408.out 2
   go_wp2
   refine bodyPost_ret (results_ct rfl _ _ gb408 30 #[.int .i64 0,.bool false,.int .i64 0] (0,0) _ rfl q3_ Tryz.underlying30 rfl (by kernel_rfl)) rfl ?_
   exact ⟨q75_,q48_⟩
  replace c6:=Bool.eq_false_iff.mpr c6
  subst c6
  rewrite [if_neg (show ¬ (false = true) by decide)] at H
  replace H:=Option.bind_eq_some_iff.mp H
  obtain ⟨t409,A80,H⟩:=H
  have A8:=Aside0.mk A80
  clear A80
  by_cases c9:t409 = 203
  ·rw [if_pos c9] at H
   have c9b0:(t409 == 203) = true:=beq_iff_eq.mpr c9
   have c9b1:(t409 != 203) = false:=bne_eq_false_iff_eq.mpr c9
   clear c9
   by_cases c10:(wrap64 ((a0.size:Int) - a1)) < 2
   ·rw [if_pos c10] at H
    have c10b0:=decide_eq_true c10
    clear c10
    simp only [Option.some.injEq,Prod.mk.injEq] at H
    obtain ⟨rfl,rfl,rfl,rfl⟩:=H
    go_wp2_with (first | ((with_reducible refine gate_callee (f:=63) rfl ?_);refine goesL_ (some 22) rfl rfl Tryz.func63 (by kernel_rfl) rfl #[.string a0,.int .i64 a1] rfl q68_ ?_;(with_reducible refine (spec_l3At.calls a0 a1 t409 _ A8.out).mono ?_);rintro e w' ⟨rfl,⟨nd,rfl⟩⟩;refine ⟨_,rfl,?_⟩;(try (rw [drewN_self wc];generalize hq_:World.drewN wc _ = wc;have n0_:Aside0 (wc.heap[gb408]? = some (.cells #[.int .i64 0,.bool false,.int .i64 0] 30 (0,0))):=⟨q67_⟩;have n1_:Aside0 (Below w.heap.size w wc):=⟨q38_⟩;clear BK408 HB hq_;have BK408:=n0_;have HB:=n1_;clear n0_ n1_))) | ((with_reducible refine gate_dst (N:=7) rfl ?_);refine box_event ?hg (N:=7) ?hd (cs:=#[.int .i64 0,.bool false,.int .i64 0]) (t:=30) ?hr ?_;(case hd => rfl);(case hg => rfl);(case hr => exact q153_);intro gb410 hg w11 hbox hb;have n0_:=Aside0.mk (blk_below (g:=gb408) (o:=.cells #[.int .i64 0,.bool false,.int .i64 0] 30 (0,0)) q78_ hb);have n1_:=Aside0.mk (below_step q48_ hb);have n2_:=Aside0.mk (hbox);have n3_:=Aside0.mk ((q34_:w.heap.size ≤ gb410));have n4_:=Aside0.mk ((q34_:w.heap.size ≤ gb410));have n5_:=Aside0.mk ((q14_:gb408 ≠ gb410));have n6_:=Aside0.mk ((q15_:gb410 ≠ gb408));clear BK408;clear HB;have BK408:=n0_;have HB:=n1_;have BK410:=n2_;have GW410:=n3_;have GE410:=n4_;have NB408_410:=n5_;have NB410_408:=n6_;clear n0_ n1_ n2_ n3_ n4_ n5_ n6_;clear hb hbox hg;have hnb12:=NB410_408.out;have hnc12:=NB408_410.out;have hcz13_0:w11.cell? ⟨gb410,0,none⟩ = some (.int .i64 0):=(blk_cell BK410.out 0).trans rfl;have hcz13_1:w11.cell? ⟨gb410,1,none⟩ = some (.bool false):=(blk_cell BK410.out 1).trans rfl;have hcz13_2:w11.cell? ⟨gb410,2,none⟩ = some (.int .i64 0):=(blk_cell BK410.out 2).trans rfl;have hfz13_0:=blk_frozen BK410.out 0;have hfz13_1:=blk_frozen BK410.out 1;have hfz13_2:=blk_frozen BK410.out 2;have hcz14_0:w11.cell? ⟨gb408,0,none⟩ = some (.int .i64 0):=(blk_cell BK408.out 0).trans rfl;have hcz14_1:w11.cell? ⟨gb408,1,none⟩ = some (.bool false):=(blk_cell BK408.out 1).trans rfl;have hcz14_2:w11.cell? ⟨gb408,2,none⟩ = some (.int .i64 0):=(blk_cell BK408.out 2).trans rfl;have hfz14_0:=blk_frozen BK408.out 0;have hfz14_1:=blk_frozen BK408.out 1;have hfz14_2:=blk_frozen BK408.out 2))
    refine bodyPost_ret (results_ct rfl _ _ gb408 30 #[.int .i64 0,.bool false,.int .i64 0] (0,0) _ rfl (by (with_reducible repeat (first | refine blk_drewN ?_ _ | refine blk_drew ?_ | refine blk_alloc ?_ _));refine blk_put (cs:=#[.int .i64 0,.bool false,.int .i64 0]) ?_ 2 _ rfl;(with_reducible repeat (first | refine blk_drewN ?_ _ | refine blk_drew ?_ | refine blk_alloc ?_ _));refine blk_put (cs:=#[.int .i64 0,.bool false,.int .i64 0]) ?_ 1 _ rfl;(with_reducible repeat (first | refine blk_drewN ?_ _ | refine blk_drew ?_ | refine blk_alloc ?_ _));refine blk_put (cs:=#[.int .i64 0,.bool false,.int .i64 0]) ?_ 0 _ rfl;(with_reducible repeat (first | refine blk_drewN ?_ _ | refine blk_drew ?_ | refine blk_alloc ?_ _));refine blk_far ?_ NB408_410.out _;(with_reducible repeat (first | refine blk_drewN ?_ _ | refine blk_drew ?_ | refine blk_alloc ?_ _));refine blk_far ?_ NB408_410.out _;(with_reducible repeat (first | refine blk_drewN ?_ _ | refine blk_drew ?_ | refine blk_alloc ?_ _));refine blk_far ?_ NB408_410.out _;(with_reducible repeat (first | refine blk_drewN ?_ _ | refine blk_drew ?_ | refine blk_alloc ?_ _));exact BK408.out) Tryz.underlying30 rfl (by kernel_rfl)) rfl ?_
    exact ⟨q75_,q36_⟩
   rw [if_neg c10] at H
   have c10b0:=decide_eq_false c10
   clear c10
   replace H:=Option.bind_eq_some_iff.mp H
   obtain ⟨t411,A150,H⟩:=H
   have A15:=Aside0.mk A150
   clear A150
   simp only [Option.some.injEq,Prod.mk.injEq] at H
   obtain ⟨rfl,rfl,rfl,rfl⟩:=H
   go_wp2_with (first | ((with_reducible refine gate_callee (f:=63) rfl ?_);refine goesL_ (some 22) rfl rfl Tryz.func63 (by kernel_rfl) rfl #[.string a0,.int .i64 a1] rfl q68_ ?_;(with_reducible refine (spec_l3At.calls a0 a1 t409 _ A8.out).mono ?_);rintro e w' ⟨rfl,⟨nd,rfl⟩⟩;refine ⟨_,rfl,?_⟩;(try (rw [drewN_self wc];generalize hq_:World.drewN wc _ = wc;have n0_:Aside0 (wc.heap[gb408]? = some (.cells #[.int .i64 0,.bool false,.int .i64 0] 30 (0,0))):=⟨q67_⟩;have n1_:Aside0 (Below w.heap.size w wc):=⟨q38_⟩;clear BK408 HB hq_;have BK408:=n0_;have HB:=n1_;clear n0_ n1_))) | ((with_reducible refine gate_dst (N:=7) rfl ?_);refine box_event ?hg (N:=7) ?hd (cs:=#[.int .i64 0,.bool false,.int .i64 0]) (t:=30) ?hr ?_;(case hd => rfl);(case hg => rfl);(case hr => exact q153_);intro gb410 hg w16 hbox hb;have n0_:=Aside0.mk (blk_below (g:=gb408) (o:=.cells #[.int .i64 0,.bool false,.int .i64 0] 30 (0,0)) q78_ hb);have n1_:=Aside0.mk (below_step q48_ hb);have n2_:=Aside0.mk (hbox);have n3_:=Aside0.mk ((q34_:w.heap.size ≤ gb410));have n4_:=Aside0.mk ((q34_:w.heap.size ≤ gb410));have n5_:=Aside0.mk ((q14_:gb408 ≠ gb410));have n6_:=Aside0.mk ((q15_:gb410 ≠ gb408));clear BK408;clear HB;have BK408:=n0_;have HB:=n1_;have BK410:=n2_;have GW410:=n3_;have GE410:=n4_;have NB408_410:=n5_;have NB410_408:=n6_;clear n0_ n1_ n2_ n3_ n4_ n5_ n6_;clear hb hbox hg;have hnb17:=NB410_408.out;have hnc17:=NB408_410.out;have hcz18_0:w16.cell? ⟨gb410,0,none⟩ = some (.int .i64 0):=(blk_cell BK410.out 0).trans rfl;have hcz18_1:w16.cell? ⟨gb410,1,none⟩ = some (.bool false):=(blk_cell BK410.out 1).trans rfl;have hcz18_2:w16.cell? ⟨gb410,2,none⟩ = some (.int .i64 0):=(blk_cell BK410.out 2).trans rfl;have hfz18_0:=blk_frozen BK410.out 0;have hfz18_1:=blk_frozen BK410.out 1;have hfz18_2:=blk_frozen BK410.out 2) | ((with_reducible refine gate_callee (f:=63) rfl ?_);refine goesL_ (some 33) rfl rfl Tryz.func63 (by kernel_rfl) rfl #[.string a0,.int .i64 (wrap64 (a1 + 1))] rfl q19_ ?_;(with_reducible refine (spec_l3At.calls a0 (wrap64 (a1 + 1)) t411 _ A15.out).mono ?_);rintro e w' ⟨rfl,⟨nd,rfl⟩⟩;refine ⟨_,rfl,?_⟩;have hcz19_0:w16.cell? ⟨gb408,0,none⟩ = some (.int .i64 0):=(blk_cell BK408.out 0).trans rfl;have hcz19_1:w16.cell? ⟨gb408,1,none⟩ = some (.bool false):=(blk_cell BK408.out 1).trans rfl;have hcz19_2:w16.cell? ⟨gb408,2,none⟩ = some (.int .i64 0):=(blk_cell BK408.out 2).trans rfl;have hfz19_0:=blk_frozen BK408.out 0;have hfz19_1:=blk_frozen BK408.out 1;have hfz19_2:=blk_frozen BK408.out 2))
   refine bodyPost_ret (results_ct rfl _ _ gb408 30 #[.int .i64 t411,.bool true,.int .i64 0] (0,0) _ rfl (by (with_reducible repeat (first | refine blk_drewN ?_ _ | refine blk_drew ?_ | refine blk_alloc ?_ _));refine blk_put (cs:=#[.int .i64 t411,.bool true,.int .i64 0]) ?_ 2 _ rfl;(with_reducible repeat (first | refine blk_drewN ?_ _ | refine blk_drew ?_ | refine blk_alloc ?_ _));refine blk_put (cs:=#[.int .i64 t411,.bool false,.int .i64 0]) ?_ 1 _ rfl;(with_reducible repeat (first | refine blk_drewN ?_ _ | refine blk_drew ?_ | refine blk_alloc ?_ _));refine blk_put (cs:=#[.int .i64 0,.bool false,.int .i64 0]) ?_ 0 _ rfl;(with_reducible repeat (first | refine blk_drewN ?_ _ | refine blk_drew ?_ | refine blk_alloc ?_ _));refine blk_far ?_ NB408_410.out _;(with_reducible repeat (first | refine blk_drewN ?_ _ | refine blk_drew ?_ | refine blk_alloc ?_ _));refine blk_far ?_ NB408_410.out _;(with_reducible repeat (first | refine blk_drewN ?_ _ | refine blk_drew ?_ | refine blk_alloc ?_ _));refine blk_far ?_ NB408_410.out _;(with_reducible repeat (first | refine blk_drewN ?_ _ | refine blk_drew ?_ | refine blk_alloc ?_ _));exact BK408.out) Tryz.underlying30 rfl (by kernel_rfl)) rfl ?_
   exact ⟨q75_,q36_⟩
  rw [if_neg c9] at H
  have c9b0:(t409 == 203) = false:=beq_eq_false_iff_ne.mpr c9
  have c9b1:(t409 != 203) = true:=bne_iff_ne.mpr c9
  replace H:=Option.bind_eq_some_iff.mp H
  obtain ⟨t412,A200,H⟩:=H
  have A20:=Aside0.mk A200
  clear A200
  have HC21:=Aside0.mk H
  clear H
  go_upto_region 10 with (first | ((with_reducible refine gate_callee (f:=63) rfl ?_);refine goesL_ (some 22) rfl rfl Tryz.func63 (by kernel_rfl) rfl #[.string a0,.int .i64 a1] rfl q68_ ?_;(with_reducible refine (spec_l3At.calls a0 a1 t409 _ A8.out).mono ?_);rintro e w' ⟨rfl,⟨nd,rfl⟩⟩;refine ⟨_,rfl,?_⟩;(try (rw [drewN_self wc];generalize hq_:World.drewN wc _ = wc;have n0_:Aside0 (wc.heap[gb408]? = some (.cells #[.int .i64 0,.bool false,.int .i64 0] 30 (0,0))):=⟨q67_⟩;have n1_:Aside0 (Below w.heap.size w wc):=⟨q38_⟩;clear BK408 HB hq_;have BK408:=n0_;have HB:=n1_;clear n0_ n1_))) | ((with_reducible refine gate_dst (N:=7) rfl ?_);refine box_event ?hg (N:=7) ?hd (cs:=#[.int .i64 0,.bool false,.int .i64 0]) (t:=30) ?hr ?_;(case hd => rfl);(case hg => rfl);(case hr => exact q153_);intro gb410 hg w22 hbox hb;have n0_:=Aside0.mk (blk_below (g:=gb408) (o:=.cells #[.int .i64 0,.bool false,.int .i64 0] 30 (0,0)) q78_ hb);have n1_:=Aside0.mk (below_step q48_ hb);have n2_:=Aside0.mk (hbox);have n3_:=Aside0.mk ((q34_:w.heap.size ≤ gb410));have n4_:=Aside0.mk ((q34_:w.heap.size ≤ gb410));have n5_:=Aside0.mk ((q14_:gb408 ≠ gb410));have n6_:=Aside0.mk ((q15_:gb410 ≠ gb408));clear BK408;clear HB;have BK408:=n0_;have HB:=n1_;have BK410:=n2_;have GW410:=n3_;have GE410:=n4_;have NB408_410:=n5_;have NB410_408:=n6_;clear n0_ n1_ n2_ n3_ n4_ n5_ n6_;clear hb hbox hg;have hnb23:=NB410_408.out;have hnc23:=NB408_410.out;have hcz24_0:w22.cell? ⟨gb410,0,none⟩ = some (.int .i64 0):=(blk_cell BK410.out 0).trans rfl;have hcz24_1:w22.cell? ⟨gb410,1,none⟩ = some (.bool false):=(blk_cell BK410.out 1).trans rfl;have hcz24_2:w22.cell? ⟨gb410,2,none⟩ = some (.int .i64 0):=(blk_cell BK410.out 2).trans rfl;have hfz24_0:=blk_frozen BK410.out 0;have hfz24_1:=blk_frozen BK410.out 1;have hfz24_2:=blk_frozen BK410.out 2) | ((with_reducible refine gate_callee (f:=52) rfl ?_);refine goesL_ (some 37) rfl rfl Tryz.func52 (by kernel_rfl) rfl #[.int .i64 t409,.bool false] rfl q68_ ?_;(with_reducible refine (spec_l3Length.calls kj2 t409 false t412 _ A20.out).mono ?_);rintro e w25 ⟨rfl,hb⟩;refine ⟨_,rfl,?_⟩;have n0_:=Aside0.mk (blk_below (g:=gb408) (o:=.cells #[.int .i64 0,.bool false,.int .i64 0] 30 (0,0)) (by (with_reducible repeat (first | refine blk_drewN ?_ _ | refine blk_drew ?_ | refine blk_alloc ?_ _));refine blk_far ?_ NB408_410.out _;(with_reducible repeat (first | refine blk_drewN ?_ _ | refine blk_drew ?_ | refine blk_alloc ?_ _));refine blk_far ?_ NB408_410.out _;(with_reducible repeat (first | refine blk_drewN ?_ _ | refine blk_drew ?_ | refine blk_alloc ?_ _));refine blk_far ?_ NB408_410.out _;(with_reducible repeat (first | refine blk_drewN ?_ _ | refine blk_drew ?_ | refine blk_alloc ?_ _));exact BK408.out) hb);have n1_:=Aside0.mk (blk_below (g:=gb410) (o:=.cells #[.int .i64 t409,.bool false,.int .i64 0] 30 (0,0)) (by (with_reducible repeat (first | refine blk_drewN ?_ _ | refine blk_drew ?_ | refine blk_alloc ?_ _));refine blk_put (cs:=#[.int .i64 t409,.bool false,.int .i64 0]) ?_ 2 _ rfl;(with_reducible repeat (first | refine blk_drewN ?_ _ | refine blk_drew ?_ | refine blk_alloc ?_ _));refine blk_put (cs:=#[.int .i64 t409,.bool false,.int .i64 0]) ?_ 1 _ rfl;(with_reducible repeat (first | refine blk_drewN ?_ _ | refine blk_drew ?_ | refine blk_alloc ?_ _));refine blk_put (cs:=#[.int .i64 0,.bool false,.int .i64 0]) ?_ 0 _ rfl;(with_reducible repeat (first | refine blk_drewN ?_ _ | refine blk_drew ?_ | refine blk_alloc ?_ _));exact BK410.out) hb);have n2_:=Aside0.mk (below_step q36_ hb);clear BK408;clear BK410;clear HB;have BK408:=n0_;have BK410:=n1_;have HB:=n2_;clear n0_ n1_ n2_;(try clear hb)))
  (try simp only [Act.put,List.setIfInBounds_toArray,List.set_cons_zero,List.set_cons_succ])
  go_cut [44] (fun v44 wc => ∃ (kq:Nat) (x44_20:Bool),v44 = .bool x44_20 ∧ Aside0 (spec_ReadIns.j1 kq a0 a1 t412 x44_20 t409 false 0 = some (r1,r2,r3,r4)) ∧ Aside0 (kq ≤ kj2) ∧ Aside0 (wc.heap[gb408]? = some (.cells #[.int .i64 0,.bool false,.int .i64 0] 30 (0,0))) ∧ Aside0 (wc.heap[gb410]? = some (.cells #[.int .i64 t409,.bool false,.int .i64 0] 30 (0,0))) ∧ Aside0 (Below w.heap.size w wc))
  case first =>
   have H:=HC21.out
   clear HC21
   by_cases c26:t412 = 0
   ·rw [if_pos c26] at H
    have c26b0:(t412 == 0) = true:=beq_iff_eq.mpr c26
    have c26b1:(t412 != 0) = false:=bne_eq_false_iff_eq.mpr c26
    clear c26
    (first | rw [c26b0] | (simp only [i64_w,i32_w];rw [c26b0]) | skip)
    have H':=Aside0.mk H
    clear H
    go_wp2
    go_meet
    case rel => exact ⟨_,(true),q94_,H',⟨by have:=HJ2.out;first | omega | exact Nat.le_refl _⟩,⟨q78_⟩,⟨q79_⟩,⟨q36_⟩⟩
   rw [if_neg c26] at H
   have c26b0:(t412 == 0) = false:=beq_eq_false_iff_ne.mpr c26
   have c26b1:(t412 != 0) = true:=bne_iff_ne.mpr c26
   (first | rw [c26b0] | (simp only [i64_w,i32_w];rw [c26b0]) | skip)
   have H':=Aside0.mk H
   clear H
   go_wp2
   go_meet
   case rel => exact ⟨_,(decide (t412 > (wrap64 ((a0.size:Int) - a1)))),q94_,H',⟨by have:=HJ2.out;first | omega | exact Nat.le_refl _⟩,⟨q78_⟩,⟨q79_⟩,⟨q36_⟩⟩
  clear HC21
  try clear c1
  try clear c2
  try clear p2 p2
  try clear c5
  try clear c5b0
  try clear c6
  try clear p6
  try clear c9
  try clear c9b0
  try clear c9b1
  try clear c10
  try clear c10b0
  try clear c12
  try clear c17
  try clear c23
  try clear c24
  try clear c26
  try clear c26b0
  try clear c26b1
  try clear hcz13_0 hcz13_1 hcz13_2
  try clear hcz14_0 hcz14_1 hcz14_2
  try clear hcz18_0 hcz18_1 hcz18_2
  try clear hcz19_0 hcz19_1 hcz19_2
  try clear hcz24_0 hcz24_1 hcz24_2
  try clear hcz7_0 hcz7_1 hcz7_2
  try clear hfz13_0 hfz13_1 hfz13_2
  try clear hfz14_0 hfz14_1 hfz14_2
  try clear hfz18_0 hfz18_1 hfz18_2
  try clear hfz19_0 hfz19_1 hfz19_2
  try clear hfz24_0 hfz24_1 hfz24_2
  try clear hfz7_0 hfz7_1 hfz7_2
  obtain ⟨kq,x44_20,rfl,HA,HJ20,BK408,BK410,HB⟩:=hcut
  cases kq with
  | zero => exact absurd HA.out (by simp [spec_ReadIns.j1])
  | succ kj20 =>
   have H:=HA.out
   clear HA
   simp only [spec_ReadIns.j1] at H
   by_cases c27:x44_20 = true
   ·subst c27
    rewrite [if_pos rfl] at H
    simp only [Option.some.injEq,Prod.mk.injEq] at H
    obtain ⟨rfl,rfl,rfl,rfl⟩:=H
    have hnb28:=NB408_410.out
    have hnc28:=NB410_408.out
    have hcz29_0:wc.cell? ⟨gb408,0,none⟩ = some (.int .i64 0):=bz_ BK408 0
    have hcz29_1:wc.cell? ⟨gb408,1,none⟩ = some (.bool false):=bz_ BK408 1
    have hcz29_2:wc.cell? ⟨gb408,2,none⟩ = some (.int .i64 0):=bz_ BK408 2
    have hfz29_0:=blk_frozen BK408.out 0
    have hfz29_1:=blk_frozen BK408.out 1
    have hfz29_2:=blk_frozen BK408.out 2
    go_wp2
    refine bodyPost_ret (results_ct rfl _ _ gb408 30 #[.int .i64 0,.bool false,.int .i64 0] (0,0) _ rfl q3_ Tryz.underlying30 rfl (by kernel_rfl)) rfl ?_
    exact ⟨q75_,q36_⟩
   replace c27:=Bool.eq_false_iff.mpr c27
   subst c27
   rewrite [if_neg (show ¬ (false = true) by decide)] at H
   have HC30:=Aside0.mk H
   clear H
   go_upto_if 47 with (fail)
   go_cut [] (fun wc => ∃ (kq:Nat) (x411002_29:Int),Aside0 (spec_ReadIns.j2 kq a0 a1 t412 t409 false x411002_29 = some (r1,r2,r3,r4)) ∧ Aside0 (kq ≤ kj20) ∧ Aside0 (wc.heap[gb408]? = some (.cells #[.int .i64 0,.bool false,.int .i64 0] 30 (0,0))) ∧ Aside0 (wc.heap[gb410]? = some (.cells #[.int .i64 t409,.bool false,.int .i64 x411002_29] 30 (0,0))) ∧ Aside0 (Below w.heap.size w wc))
   case first =>
    have H:=HC30.out
    clear HC30
    by_cases c31:t412 > 1
    ·rw [if_pos c31] at H
     have c31b0:decide (1 < t412) = true:=decide_eq_true c31
     clear c31
     (first | rw [c31b0] | (simp only [i64_w,i32_w];rw [c31b0]) | skip)
     replace H:=Option.bind_eq_some_iff.mp H
     obtain ⟨t413,A320,H⟩:=H
     have A32:=Aside0.mk A320
     clear A320
     have H':=Aside0.mk H
     clear H
     go_wp2_with (first | ((with_reducible refine gate_callee (f:=63) rfl ?_);refine goesL_ (some 51) rfl rfl Tryz.func63 (by kernel_rfl) rfl #[.string a0,.int .i64 (wrap64 (a1 + 1))] rfl q19_ ?_;(with_reducible refine (spec_l3At.calls a0 (wrap64 (a1 + 1)) t413 _ A32.out).mono ?_);rintro e w' ⟨rfl,⟨nd,rfl⟩⟩;refine ⟨_,rfl,?_⟩;(try (rw [drewN_self wc];generalize hq_:World.drewN wc _ = wc;have n0_:Aside0 (wc.heap[gb408]? = some (.cells #[.int .i64 0,.bool false,.int .i64 0] 30 (0,0))):=⟨q67_⟩;have n1_:Aside0 (wc.heap[gb410]? = some (.cells #[.int .i64 t409,.bool false,.int .i64 0] 30 (0,0))):=⟨by rw [← hq_];exact q79_⟩;have n2_:Aside0 (Below w.heap.size w wc):=⟨by rw [← hq_];exact q36_⟩;clear BK408 BK410 HB hq_;have BK408:=n0_;have BK410:=n1_;have HB:=n2_;clear n0_ n1_ n2_));have hnb33:=NB410_408.out;have hnc33:=NB408_410.out;have hcz34_0:wc.cell? ⟨gb410,0,none⟩ = some (.int .i64 t409):=(blk_cell BK410.out 0).trans rfl;have hcz34_1:wc.cell? ⟨gb410,1,none⟩ = some (.bool false):=(blk_cell BK410.out 1).trans rfl;have hcz34_2:wc.cell? ⟨gb410,2,none⟩ = some (.int .i64 0):=(blk_cell BK410.out 2).trans rfl;have hfz34_0:=blk_frozen BK410.out 0;have hfz34_1:=blk_frozen BK410.out 1;have hfz34_2:=blk_frozen BK410.out 2))
     go_meet
     case rel => exact ⟨_,(t413),H',⟨by have:=HJ2.out;have:=HJ20.out;first | omega | exact Nat.le_refl _⟩,⟨by (with_reducible repeat (first | refine blk_drewN ?_ _ | refine blk_drew ?_ | refine blk_alloc ?_ _));refine blk_far ?_ NB408_410.out _;(with_reducible repeat (first | refine blk_drewN ?_ _ | refine blk_drew ?_ | refine blk_alloc ?_ _));exact BK408.out⟩,⟨by (with_reducible repeat (first | refine blk_drewN ?_ _ | refine blk_drew ?_ | refine blk_alloc ?_ _));refine blk_put (cs:=#[.int .i64 t409,.bool false,.int .i64 0]) ?_ 2 _ rfl;(with_reducible repeat (first | refine blk_drewN ?_ _ | refine blk_drew ?_ | refine blk_alloc ?_ _));exact BK410.out⟩,⟨q36_⟩⟩
    rw [if_neg c31] at H
    have c31b0:decide (1 < t412) = false:=decide_eq_false c31
    clear c31
    (first | rw [c31b0] | (simp only [i64_w,i32_w];rw [c31b0]) | skip)
    have H':=Aside0.mk H
    clear H
    go_wp2
    go_meet
    case rel => exact ⟨_,(0),H',⟨by have:=HJ2.out;have:=HJ20.out;first | omega | exact Nat.le_refl _⟩,⟨q78_⟩,⟨q79_⟩,⟨q36_⟩⟩
   clear HC30
   try clear c1
   try clear c2
   try clear p2 p2
   try clear c3
   try clear c5
   try clear c5b0
   try clear c6
   try clear p6 p6
   try clear c9
   try clear c9b0
   try clear c9b1
   try clear c10
   try clear c10b0
   try clear c12
   try clear c17
   try clear c23
   try clear c24
   try clear c26
   try clear c26b0
   try clear c26b1
   try clear c27
   try clear c28
   try clear c31
   try clear c31b0
   try clear c33
   try clear hcz13_0 hcz13_1 hcz13_2
   try clear hcz14_0 hcz14_1 hcz14_2
   try clear hcz18_0 hcz18_1 hcz18_2
   try clear hcz19_0 hcz19_1 hcz19_2
   try clear hcz24_0 hcz24_1 hcz24_2
   try clear hcz29_0 hcz29_1 hcz29_2
   try clear hcz34_0 hcz34_1 hcz34_2
   try clear hcz7_0 hcz7_1 hcz7_2
   try clear hfz13_0 hfz13_1 hfz13_2
   try clear hfz14_0 hfz14_1 hfz14_2
   try clear hfz18_0 hfz18_1 hfz18_2
   try clear hfz19_0 hfz19_1 hfz19_2
   try clear hfz24_0 hfz24_1 hfz24_2
   try clear hfz29_0 hfz29_1 hfz29_2
   try clear hfz34_0 hfz34_1 hfz34_2
   try clear hfz7_0 hfz7_1 hfz7_2
   obtain ⟨kq,x411002_29,HA,HJ29,BK408,BK410,HB⟩:=hcut
   cases kq with
   | zero => exact absurd HA.out (by simp [spec_ReadIns.j2])
   | succ kj29 =>
    have H:=HA.out
    clear HA
    simp only [spec_ReadIns.j2] at H
    by_cases c35:t412 > 2
    ·rw [if_pos c35] at H
     have c35b0:decide (2 < t412) = true:=decide_eq_true c35
     clear c35
     replace H:=Option.bind_eq_some_iff.mp H
     obtain ⟨t414,A360,H⟩:=H
     have A36:=Aside0.mk A360
     clear A360
     simp only [Option.some.injEq,Prod.mk.injEq] at H
     obtain ⟨rfl,rfl,rfl,rfl⟩:=H
     try go_wp2
     have n0_:=Aside0.mk (blk_drew BK408.out)
     have n1_:=Aside0.mk (blk_drew BK410.out)
     have n2_:=Aside0.mk (below_drew1 HB.out)
     clear BK408
     clear BK410
     clear HB
     have BK408:=n0_
     have BK410:=n1_
     have HB:=n2_
     clear n0_ n1_ n2_
     refine start_ (n:=10) (S:=fun w' => w'.cell? ⟨gb410,0,none⟩ = some (.int .i64 t409) ∧ w'.cell? ⟨gb410,1,none⟩ = some (.bool false) ∧ w'.cell? ⟨gb410,2,none⟩ = some (.int .i64 x411002_29)) (ds:=[9]) #[false,false,false,false,false,false,false,false,false,false] (by kernel_rfl) rfl rfl ⟨(blk_cell BK410.out 0).trans rfl,(blk_cell BK410.out 1).trans rfl,(blk_cell BK410.out 2).trans rfl⟩ (fun hHeld => ?_);refine with_tabW spec_ReadIns.tab15 spec_ReadIns.bits15 (fun HT_ HW_ => ?_)
     generalize wc.drew = w37 at BK408 BK410 HB hHeld ⊢
     refine pure_ (i:=0) (N:=some 55) (v:=?_) (a':=?_) #[true,false,false,false,false,false,false,false,false,false] rfl rfl (any_of HT_.out (by kernel_rfl)) (fun _ _ _ h => h) (Or.inl ⟨by rfl,?_⟩) ?_ ?_
     rotate_left
     ·intro w'
      go_simp
      with_reducible rfl
     rotate_left
     ·simp only [Act.put,List.setIfInBounds_toArray,List.set_cons_zero,List.set_cons_succ,i64_w,i32_w]
      rfl
     refine pure_ (i:=2) (N:=some 57) (v:=?_) (a':=?_) #[true,false,true,false,false,false,false,false,false,false] rfl rfl (any_of HT_.out (by kernel_rfl)) (fun _ _ _ h => h) (Or.inl ⟨by rfl,?_⟩) ?_ ?_
     rotate_left
     ·intro w'
      go_simp
      with_reducible rfl
     rotate_left
     ·simp only [Act.put,List.setIfInBounds_toArray,List.set_cons_zero,List.set_cons_succ,i64_w,i32_w]
      rfl
     refine pure_ (i:=3) (N:=some 58) (v:=?_) (a':=?_) #[true,false,true,true,false,false,false,false,false,false] rfl rfl (any_of HT_.out (by kernel_rfl)) (fun _ _ _ h => h) (Or.inl ⟨by rfl,?_⟩) ?_ ?_
     rotate_left
     ·intro w'
      go_simp
      with_reducible rfl
     rotate_left
     ·simp only [Act.put,List.setIfInBounds_toArray,List.set_cons_zero,List.set_cons_succ,i64_w,i32_w]
      rfl
     refine pure_ (i:=4) (N:=some 59) (v:=?_) (a':=?_) #[true,false,true,true,true,false,false,false,false,false] rfl rfl (any_of HT_.out (by kernel_rfl)) (fun _ _ _ h => h) (Or.inl ⟨by rfl,?_⟩) ?_ ?_
     rotate_left
     ·intro w'
      go_simp
      with_reducible rfl
     rotate_left
     ·simp only [Act.put,List.setIfInBounds_toArray,List.set_cons_zero,List.set_cons_succ,i64_w,i32_w]
      rfl
     refine take_ (i:=1) (N:=some 56) (v:=?_) (a':=?_) #[true,true,true,true,true,false,false,false,false,false] rfl rfl (take_ofW HT_.out HW_.out (by kernel_rfl)) (fun _ _ _ h => h) (Or.inl ⟨by rfl,?_⟩) hHeld ?_ ?_
     rotate_left
     ·rintro w' ⟨s0,s1,s2⟩
      go_simp
      with_reducible rfl
     rotate_left
     ·simp only [Act.put,List.setIfInBounds_toArray,List.set_cons_zero,List.set_cons_succ,i64_w,i32_w]
      rfl
     refine one_ (i:=5) (N:=some 60) #[true,true,true,true,true,true,false,false,false,false] rfl rfl (one_of HT_.out (by kernel_rfl)) (by decide) (fun K hK => ?_)
     refine goes_ Tryz.func63 (by kernel_rfl) rfl #[.string a0,.int .i64 (wrap64 (a1 + 2))] (by rfl) rfl rfl q68_ ?_
     with_reducible refine (spec_l3At.calls a0 (wrap64 (a1 + 2)) t414 _ A36.out).mono ?_
     rintro e w' ⟨rfl,⟨nd,rfl⟩⟩
     refine ⟨_,rfl,?_⟩
     refine hK.out _ _ ⟨(blk_cell BK410.out 0).trans rfl,(blk_cell BK410.out 1).trans rfl,(blk_cell BK410.out 2).trans rfl⟩ (fun hHeld => ?_)
     clear hK K
     refine norm_ (a':=?_) ?_ ?_
     rotate_left
     ·show Act.put _ (some 60) _ = _
      simp only [Act.put,List.setIfInBounds_toArray,List.set_cons_zero,List.set_cons_succ,i64_w,i32_w]
      rfl
     refine pure_ (i:=6) (N:=some 61) (v:=?_) (a':=?_) #[true,true,true,true,true,true,true,false,false,false] rfl rfl (any_of HT_.out (by kernel_rfl)) (fun _ _ _ h => h) (Or.inl ⟨by rfl,?_⟩) ?_ ?_
     rotate_left
     ·intro w'
      go_simp
      with_reducible rfl
     rotate_left
     ·simp only [Act.put,List.setIfInBounds_toArray,List.set_cons_zero,List.set_cons_succ,i64_w,i32_w]
      rfl
     refine pure_ (i:=7) (N:=some 62) (v:=?_) (a':=?_) #[true,true,true,true,true,true,true,true,false,false] rfl rfl (any_of HT_.out (by kernel_rfl)) (fun _ _ _ h => h) (Or.inl ⟨by rfl,?_⟩) ?_ ?_
     rotate_left
     ·intro w'
      go_simp
      with_reducible rfl
     rotate_left
     ·simp only [Act.put,List.setIfInBounds_toArray,List.set_cons_zero,List.set_cons_succ,i64_w,i32_w]
      rfl
     refine pure_ (i:=8) (N:=some 63) (v:=?_) (a':=?_) #[true,true,true,true,true,true,true,true,true,false] rfl rfl (any_of HT_.out (by kernel_rfl)) (fun _ _ _ h => h) (Or.inl ⟨by rfl,?_⟩) ?_ ?_
     rotate_left
     ·intro w'
      go_simp
      with_reducible rfl
     rotate_left
     ·simp only [Act.put,List.setIfInBounds_toArray,List.set_cons_zero,List.set_cons_succ,i64_w,i32_w]
      rfl
     refine last_ (i:=9) (N:=none) #[true,true,true,true,true,true,true,true,true,true] rfl rfl (one_of HT_.out (by kernel_rfl)) (by decide) (fun K hK => ?_)
     have hs38:w37.cell? ⟨gb410,2,none⟩ = some (.int .i64 x411002_29):=bz_ BK410 2
     have hfs38:=blk_frozen BK410.out 2
     have hns38_0:=NB408_410.out
     have hms38_0:=NB410_408.out
     refine skip_ (w1:=?_) (by rfl) rfl ?_ ?_
     rotate_left
     ·go_simp
      rfl
     refine hK.out _ _ ?_
     clear hK K
     refine done_ (done_of HT_.out (by kernel_rfl)) ?_
     have hnb39:=NB410_408.out
     have hnc39:=NB408_410.out
     have hcz40_0:w37.cell? ⟨gb410,0,none⟩ = some (.int .i64 t409):=bz_ BK410 0
     have hcz40_1:w37.cell? ⟨gb410,1,none⟩ = some (.bool false):=bz_ BK410 1
     have hcz40_2:w37.cell? ⟨gb410,2,none⟩ = some (.int .i64 x411002_29):=bz_ BK410 2
     have hfz40_0:=blk_frozen BK410.out 0
     have hfz40_1:=blk_frozen BK410.out 1
     have hfz40_2:=blk_frozen BK410.out 2
     have hcz41_0:w37.cell? ⟨gb408,0,none⟩ = some (.int .i64 0):=bz_ BK408 0
     have hcz41_1:w37.cell? ⟨gb408,1,none⟩ = some (.bool false):=bz_ BK408 1
     have hcz41_2:w37.cell? ⟨gb408,2,none⟩ = some (.int .i64 0):=bz_ BK408 2
     have hfz41_0:=blk_frozen BK408.out 0
     have hfz41_1:=blk_frozen BK408.out 1
     have hfz41_2:=blk_frozen BK408.out 2
     try go_wp2
     refine bodyPost_ret (results_ct rfl _ _ gb408 30 #[.int .i64 t409,.bool false,.int .i64 (wrap64 (x411002_29 + (wrap64 (256 * t414))))] (0,0) _ rfl (by (with_reducible repeat (first | refine blk_drewN ?_ _ | refine blk_drew ?_ | refine blk_alloc ?_ _));refine blk_put (cs:=#[.int .i64 t409,.bool false,.int .i64 0]) ?_ 2 _ rfl;(with_reducible repeat (first | refine blk_drewN ?_ _ | refine blk_drew ?_ | refine blk_alloc ?_ _));refine blk_put (cs:=#[.int .i64 t409,.bool false,.int .i64 0]) ?_ 1 _ rfl;(with_reducible repeat (first | refine blk_drewN ?_ _ | refine blk_drew ?_ | refine blk_alloc ?_ _));refine blk_put (cs:=#[.int .i64 0,.bool false,.int .i64 0]) ?_ 0 _ rfl;(with_reducible repeat (first | refine blk_drewN ?_ _ | refine blk_drew ?_ | refine blk_alloc ?_ _));refine blk_far ?_ NB408_410.out _;(with_reducible repeat (first | refine blk_drewN ?_ _ | refine blk_drew ?_ | refine blk_alloc ?_ _));exact BK408.out) Tryz.underlying30 rfl (by kernel_rfl)) rfl ?_
     exact ⟨q75_,q36_⟩
    rw [if_neg c35] at H
    have c35b0:decide (2 < t412) = false:=decide_eq_false c35
    clear c35
    simp only [Option.some.injEq,Prod.mk.injEq] at H
    obtain ⟨rfl,rfl,rfl,rfl⟩:=H
    have hnb42:=NB410_408.out
    have hnc42:=NB408_410.out
    have hcz43_0:wc.cell? ⟨gb410,0,none⟩ = some (.int .i64 t409):=bz_ BK410 0
    have hcz43_1:wc.cell? ⟨gb410,1,none⟩ = some (.bool false):=bz_ BK410 1
    have hcz43_2:wc.cell? ⟨gb410,2,none⟩ = some (.int .i64 x411002_29):=bz_ BK410 2
    have hfz43_0:=blk_frozen BK410.out 0
    have hfz43_1:=blk_frozen BK410.out 1
    have hfz43_2:=blk_frozen BK410.out 2
    have hcz44_0:wc.cell? ⟨gb408,0,none⟩ = some (.int .i64 0):=bz_ BK408 0
    have hcz44_1:wc.cell? ⟨gb408,1,none⟩ = some (.bool false):=bz_ BK408 1
    have hcz44_2:wc.cell? ⟨gb408,2,none⟩ = some (.int .i64 0):=bz_ BK408 2
    have hfz44_0:=blk_frozen BK408.out 0
    have hfz44_1:=blk_frozen BK408.out 1
    have hfz44_2:=blk_frozen BK408.out 2
    go_wp2
    refine bodyPost_ret (results_ct rfl _ _ gb408 30 #[.int .i64 t409,.bool false,.int .i64 x411002_29] (0,0) _ rfl (by (with_reducible repeat (first | refine blk_drewN ?_ _ | refine blk_drew ?_ | refine blk_alloc ?_ _));refine blk_put (cs:=#[.int .i64 t409,.bool false,.int .i64 0]) ?_ 2 _ rfl;(with_reducible repeat (first | refine blk_drewN ?_ _ | refine blk_drew ?_ | refine blk_alloc ?_ _));refine blk_put (cs:=#[.int .i64 t409,.bool false,.int .i64 0]) ?_ 1 _ rfl;(with_reducible repeat (first | refine blk_drewN ?_ _ | refine blk_drew ?_ | refine blk_alloc ?_ _));refine blk_put (cs:=#[.int .i64 0,.bool false,.int .i64 0]) ?_ 0 _ rfl;(with_reducible repeat (first | refine blk_drewN ?_ _ | refine blk_drew ?_ | refine blk_alloc ?_ _));exact BK408.out) Tryz.underlying30 rfl (by kernel_rfl)) rfl ?_
    exact ⟨q75_,q36_⟩
def spec_l5Banks.f (a0:ByteArray):Option (Int):=if ((a0.size:Int) % 256) = 0 then ((spec_l1In.f (wrap64 ((a0.size:Int) / 256)) 2 16).bind fun t415 => (if t415 = true then (some (wrap64 ((a0.size:Int) / 256))) else (some 0))) else (some 0)
theorem spec_l5Banks.calls (a0:ByteArray) (r:Int) (w:World) (h:spec_l5Banks.f a0 = some r) :
  Calls Tryz.prog 76 #[.string a0] w fun e w' => e = .returned (.int .i64 r) ∧ Drawn0 w w':=by
 have H:=h;unfold spec_l5Banks.f at H
 clear h
 by_cases c2:((a0.size:Int) % 256) = 0
 ·rw [if_pos c2] at H
  have c2b0:(((a0.size:Int) % 256) == 0) = true:=beq_iff_eq.mpr c2
  have c2b1:(((a0.size:Int) % 256) != 0) = false:=bne_eq_false_iff_eq.mpr c2
  clear c2
  replace H:=Option.bind_eq_some_iff.mp H
  obtain ⟨t415,A30,H⟩:=H
  have A3:=Aside0.mk A30
  clear A30
  by_cases c4:t415 = true
  ·subst c4
   rewrite [if_pos rfl] at H
   obtain rfl:=Option.some.inj H
   go_enter Tryz.func76,Tryz.ntmps76
   go_wp2_with (first | (go_at_call 51;(with_reducible refine (spec_l1In.calls (wrap64 ((a0.size:Int) / 256)) 2 16 true _ A3.out).mono ?_);rintro e w' ⟨rfl,⟨nd,rfl⟩⟩))
   go_ret
   exact ⟨q94_,q117_⟩
  replace c4:=Bool.eq_false_iff.mpr c4
  subst c4
  rewrite [if_neg (show ¬ (false = true) by decide)] at H
  obtain rfl:=Option.some.inj H
  go_enter Tryz.func76,Tryz.ntmps76
  go_wp2_with (first | (go_at_call 51;(with_reducible refine (spec_l1In.calls (wrap64 ((a0.size:Int) / 256)) 2 16 false _ A3.out).mono ?_);rintro e w' ⟨rfl,⟨nd,rfl⟩⟩))
  go_ret
  exact ⟨q94_,q117_⟩
 rw [if_neg c2] at H
 have c2b0:(((a0.size:Int) % 256) == 0) = false:=beq_eq_false_iff_ne.mpr c2
 have c2b1:(((a0.size:Int) % 256) != 0) = true:=bne_iff_ne.mpr c2
 obtain rfl:=Option.some.inj H
 go_enter Tryz.func76,Tryz.ntmps76
 go_wp2
 go_ret
 exact ⟨q94_,q117_⟩
def spec_SignedOf.f (a0:Int):Option (Int):=(spec_l1In.f a0 0 255).bind fun t416 => (if t416 = true then (if a0 > 127 then (some (wrap64 (a0 - 256))) else (some a0)) else (some 0))
theorem spec_SignedOf.calls (a0:Int) (r:Int) (w:World) (h:spec_SignedOf.f a0 = some r) :
  Calls Tryz.prog 72 #[.int .i64 a0] w fun e w' => e = .returned (.int .i64 r) ∧ Drawn0 w w':=by
 have H:=h;unfold spec_SignedOf.f at H
 clear h
 replace H:=Option.bind_eq_some_iff.mp H
 obtain ⟨t416,A20,H⟩:=H
 have A2:=Aside0.mk A20
 clear A20
 by_cases c3:t416 = true
 ·subst c3
  rewrite [if_pos rfl] at H
  by_cases c4:a0 > 127
  ·rw [if_pos c4] at H
   have c4b0:decide (127 < a0) = true:=decide_eq_true c4
   clear c4
   obtain rfl:=Option.some.inj H
   go_enter Tryz.func72,Tryz.ntmps72
   go_wp2_with (first | ((with_reducible refine gate_callee (f:=51) rfl ?_);refine goesL_ (some 4) rfl rfl Tryz.func51 (by kernel_rfl) rfl #[.int .i64 a0,.int .i64 0,.int .i64 255] rfl q68_ ?_;(with_reducible refine (spec_l1In.calls a0 0 255 true _ A2.out).mono ?_);rintro e w' ⟨rfl,⟨nd,rfl⟩⟩;refine ⟨_,rfl,?_⟩))
   go_ret
   exact ⟨q94_,q117_⟩
  rw [if_neg c4] at H
  have c4b0:decide (127 < a0) = false:=decide_eq_false c4
  clear c4
  obtain rfl:=Option.some.inj H
  go_enter Tryz.func72,Tryz.ntmps72
  go_wp2_with (first | ((with_reducible refine gate_callee (f:=51) rfl ?_);refine goesL_ (some 4) rfl rfl Tryz.func51 (by kernel_rfl) rfl #[.int .i64 a0,.int .i64 0,.int .i64 255] rfl q68_ ?_;(with_reducible refine (spec_l1In.calls a0 0 255 true _ A2.out).mono ?_);rintro e w' ⟨rfl,⟨nd,rfl⟩⟩;refine ⟨_,rfl,?_⟩))
  go_ret
  exact ⟨q94_,q117_⟩
 replace c3:=Bool.eq_false_iff.mpr c3
 subst c3
 rewrite [if_neg (show ¬ (false = true) by decide)] at H
 obtain rfl:=Option.some.inj H
 go_enter Tryz.func72,Tryz.ntmps72
 go_wp2_with (first | ((with_reducible refine gate_callee (f:=51) rfl ?_);refine goesL_ (some 4) rfl rfl Tryz.func51 (by kernel_rfl) rfl #[.int .i64 a0,.int .i64 0,.int .i64 255] rfl q68_ ?_;(with_reducible refine (spec_l1In.calls a0 0 255 false _ A2.out).mono ?_);rintro e w' ⟨rfl,⟨nd,rfl⟩⟩;refine ⟨_,rfl,?_⟩))
 go_ret
 exact ⟨q94_,q117_⟩
end Go.Proofs.YtodlnnoekccmmaaGreatDoor.QFnMarks
