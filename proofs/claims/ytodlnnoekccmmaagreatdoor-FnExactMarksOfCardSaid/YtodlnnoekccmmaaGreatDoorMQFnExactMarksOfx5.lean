/- The machine's side of a law,written by a program of this session for this claim. -/
import Derived.Test.YtodlnnoekccmmaaGreatDoorMQq
import Derived.Test.YtodlnnoekccmmaaGreatDoorMQFnExactMarksOfx0
import Derived.Test.YtodlnnoekccmmaaGreatDoorMQFnExactMarksOfx1
import Derived.Test.YtodlnnoekccmmaaGreatDoorMQFnExactMarksOfx2
import Derived.Test.YtodlnnoekccmmaaGreatDoorMQFnExactMarksOfx4
namespace Go.Proofs.YtodlnnoekccmmaaGreatDoor.QFnExactMarksOf
open Go.Proofs.YtodlnnoekccmmaaGreatDoor.Qq
open Go.RowKit Go.Proofs.YtodlnnoekccmmaaGreatDoor.LibX Go.Proofs.YtodlnnoekccmmaaGreatDoor.LibE Go.Proofs.YtodlnnoekccmmaaGreatDoor.LibCB Go.Proofs.YtodlnnoekccmmaaGreatDoorW.PrintWords Go.Proofs.YtodlnnoekccmmaaGreatDoorW.PrintLast Go.Proofs.YtodlnnoekccmmaaGreatDoorW.PrintMore
attribute [local go_sem] max2_int min2_int max_two min_two max_three min_three max_four min_four   -- for this text's walks alone
set_option maxHeartbeats 8000000
set_option maxRecDepth 100000
set_option linter.unusedVariables false
set_option linter.unusedSimpArgs false
def spec_l3Length.f (k:Nat) (a0:Int) (a1:Bool):Option (Int):=(spec_l3Template.f k a0 a1).bind fun t253 => (if t253.toList = ([]:List UInt8) then (some 0) else (if a1 = true then (some 2) else ((spec_l3Hole.f k t253).bind fun bt254 => (if bt254.2.toList = ([]:List UInt8) then (some 1) else (if bt254.2.toList = ([110,49,54]:List UInt8) then (some 3) else (some 2))))))
theorem spec_l3Length.mono:∀ a0 a1 k,LeO (spec_l3Length.f k a0 a1) (spec_l3Length.f (k + 1) a0 a1):=by
 intro a0 a1 k
 unfold spec_l3Length.f
 repeat' first
   | (with_reducible first | exact spec_l3Hole.mono _ _ | exact spec_l3Template.mono _ _ _ | exact LeO.refl _ | exact LeO.none _ | refine LeO.ite ?_ ?_ | refine LeO.bind ?_ (fun _ => ?_))
   | exact spec_l3Hole.mono _ _
   | exact spec_l3Template.mono _ _ _
   | exact LeO.none _
   | refine LeO.ite ?_ ?_
   | refine LeO.bind ?_ (fun _ => ?_)
theorem spec_l3Length.calls (k:Nat) (a0:Int) (a1:Bool) (r:Int) (w:World) (h:spec_l3Length.f k a0 a1 = some r) :
  Calls Tryz.prog 52 #[.int .i64 a0,.bool a1] w fun e w' => e = .returned (.int .i64 r) ∧ Below w.heap.size w w':=by
 have HB:=Aside0.mk (Below.refl w.heap.size w)
 have H:((spec_l3Template.f k a0 a1).bind fun t253 => (if t253.toList = ([]:List UInt8) then (some 0) else (if a1 = true then (some 2) else ((spec_l3Hole.f k t253).bind fun bt254 => (if bt254.2.toList = ([]:List UInt8) then (some 1) else (if bt254.2.toList = ([110,49,54]:List UInt8) then (some 3) else (some 2))))))) = some r:=h
 clear h
 replace H:=Option.bind_eq_some_iff.mp H
 obtain ⟨t253,A30,H⟩:=H
 have A3:=Aside0.mk A30
 clear A30
 by_cases c4:t253.toList = ([]:List UInt8)
 ·rw [if_pos c4] at H
  have c4b0:(t253.toList == ([]:List UInt8)) = true:=beq_iff_eq.mpr c4
  have c4b1:(t253.toList != ([]:List UInt8)) = false:=bne_eq_false_iff_eq.mpr c4
  clear c4
  obtain rfl:=Option.some.inj H
  go_enter Tryz.func52,Tryz.ntmps52
  go_wp2_with (first | ((with_reducible refine gate_callee (f:=60) rfl ?_);refine goesL_ (some 10) rfl rfl Tryz.func60 (by kernel_rfl) rfl #[.int .i64 a0,.bool a1] rfl q40_ ?_;(with_reducible refine (spec_l3Template.calls k a0 a1 t253 _ A3.out).mono ?_);rintro e w5 ⟨rfl,hb⟩;refine ⟨_,rfl,?_⟩;replace HB:=Aside0.mk (below_step q42_ hb);(try clear hb)))
  go_ret
  exact ⟨q47_,q42_⟩
 rw [if_neg c4] at H
 have c4b0:(t253.toList == ([]:List UInt8)) = false:=beq_eq_false_iff_ne.mpr c4
 have c4b1:(t253.toList != ([]:List UInt8)) = true:=bne_iff_ne.mpr c4
 by_cases c6:a1 = true
 ·subst c6
  replace H:(some 2) = some r:=by rw [if_pos rfl] at H;exact H
  obtain rfl:=Option.some.inj H
  go_enter Tryz.func52,Tryz.ntmps52
  go_wp2_with (first | ((with_reducible refine gate_callee (f:=60) rfl ?_);refine goesL_ (some 10) rfl rfl Tryz.func60 (by kernel_rfl) rfl #[.int .i64 a0,.bool true] rfl q40_ ?_;(with_reducible refine (spec_l3Template.calls k a0 true t253 _ A3.out).mono ?_);rintro e w7 ⟨rfl,hb⟩;refine ⟨_,rfl,?_⟩;replace HB:=Aside0.mk (below_step q42_ hb);(try clear hb)))
  go_ret
  exact ⟨q47_,q42_⟩
 replace c6:=Bool.eq_false_iff.mpr c6
 subst c6
 replace H:((spec_l3Hole.f k t253).bind fun bt254 => (if bt254.2.toList = ([]:List UInt8) then (some 1) else (if bt254.2.toList = ([110,49,54]:List UInt8) then (some 3) else (some 2)))) = some r:=by rw [if_neg (show ¬ (false = true) by decide)] at H;exact H
 replace H:=Option.bind_eq_some_iff.mp H
 obtain ⟨⟨t254,t255⟩,A80,H⟩:=H
 replace H:(if t255.toList = ([]:List UInt8) then (some 1) else (if t255.toList = ([110,49,54]:List UInt8) then (some 3) else (some 2))) = some r:=H
 have A8:=Aside0.mk A80
 clear A80
 by_cases c9:t255.toList = ([]:List UInt8)
 ·rw [if_pos c9] at H
  have c9b0:(t255.toList == ([]:List UInt8)) = true:=beq_iff_eq.mpr c9
  have c9b1:(t255.toList != ([]:List UInt8)) = false:=bne_eq_false_iff_eq.mpr c9
  clear c9
  obtain rfl:=Option.some.inj H
  go_enter Tryz.func52,Tryz.ntmps52
  go_wp2_with (first | ((with_reducible refine gate_callee (f:=60) rfl ?_);refine goesL_ (some 10) rfl rfl Tryz.func60 (by kernel_rfl) rfl #[.int .i64 a0,.bool false] rfl q40_ ?_;(with_reducible refine (spec_l3Template.calls k a0 false t253 _ A3.out).mono ?_);rintro e w10 ⟨rfl,hb⟩;refine ⟨_,rfl,?_⟩;replace HB:=Aside0.mk (below_step q42_ hb);(try clear hb)) | ((with_reducible refine gate_callee (f:=59) rfl ?_);refine goesL_ (some 16) rfl rfl Tryz.func59 (by kernel_rfl) rfl #[.string t253] rfl q40_ ?_;(with_reducible refine (spec_l3Hole.calls k t253 t254 t255 _ A8.out).mono ?_);rintro e w11 ⟨rfl,hb⟩;refine ⟨_,rfl,?_⟩;replace HB:=Aside0.mk (below_step q42_ hb);(try clear hb)))
  go_ret
  exact ⟨q47_,q42_⟩
 rw [if_neg c9] at H
 have c9b0:(t255.toList == ([]:List UInt8)) = false:=beq_eq_false_iff_ne.mpr c9
 have c9b1:(t255.toList != ([]:List UInt8)) = true:=bne_iff_ne.mpr c9
 by_cases c12:t255.toList = ([110,49,54]:List UInt8)
 ·rw [if_pos c12] at H
  have c12b0:(t255.toList == ([110,49,54]:List UInt8)) = true:=beq_iff_eq.mpr c12
  have c12b1:(t255.toList != ([110,49,54]:List UInt8)) = false:=bne_eq_false_iff_eq.mpr c12
  clear c12
  obtain rfl:=Option.some.inj H
  go_enter Tryz.func52,Tryz.ntmps52
  go_wp2_with (first | ((with_reducible refine gate_callee (f:=60) rfl ?_);refine goesL_ (some 10) rfl rfl Tryz.func60 (by kernel_rfl) rfl #[.int .i64 a0,.bool false] rfl q40_ ?_;(with_reducible refine (spec_l3Template.calls k a0 false t253 _ A3.out).mono ?_);rintro e w13 ⟨rfl,hb⟩;refine ⟨_,rfl,?_⟩;replace HB:=Aside0.mk (below_step q42_ hb);(try clear hb)) | ((with_reducible refine gate_callee (f:=59) rfl ?_);refine goesL_ (some 16) rfl rfl Tryz.func59 (by kernel_rfl) rfl #[.string t253] rfl q40_ ?_;(with_reducible refine (spec_l3Hole.calls k t253 t254 t255 _ A8.out).mono ?_);rintro e w14 ⟨rfl,hb⟩;refine ⟨_,rfl,?_⟩;replace HB:=Aside0.mk (below_step q42_ hb);(try clear hb)))
  go_ret
  exact ⟨q47_,q42_⟩
 rw [if_neg c12] at H
 have c12b0:(t255.toList == ([110,49,54]:List UInt8)) = false:=beq_eq_false_iff_ne.mpr c12
 have c12b1:(t255.toList != ([110,49,54]:List UInt8)) = true:=bne_iff_ne.mpr c12
 obtain rfl:=Option.some.inj H
 go_enter Tryz.func52,Tryz.ntmps52
 go_wp2_with (first | ((with_reducible refine gate_callee (f:=60) rfl ?_);refine goesL_ (some 10) rfl rfl Tryz.func60 (by kernel_rfl) rfl #[.int .i64 a0,.bool false] rfl q40_ ?_;(with_reducible refine (spec_l3Template.calls k a0 false t253 _ A3.out).mono ?_);rintro e w15 ⟨rfl,hb⟩;refine ⟨_,rfl,?_⟩;replace HB:=Aside0.mk (below_step q42_ hb);(try clear hb)) | ((with_reducible refine gate_callee (f:=59) rfl ?_);refine goesL_ (some 16) rfl rfl Tryz.func59 (by kernel_rfl) rfl #[.string t253] rfl q40_ ?_;(with_reducible refine (spec_l3Hole.calls k t253 t254 t255 _ A8.out).mono ?_);rintro e w16 ⟨rfl,hb⟩;refine ⟨_,rfl,?_⟩;replace HB:=Aside0.mk (below_step q42_ hb);(try clear hb)))
 go_ret
 exact ⟨q47_,q42_⟩
def spec_l3At.f (a0:ByteArray) (a1:Int):Option (Int):=if 0 ≤ a1 then (if a1 < (a0.size:Int) then (some (wrap64 (bt a0 a1))) else (none)) else (none)
theorem spec_l3At.calls (a0:ByteArray) (a1:Int) (r:Int) (w:World) (h:spec_l3At.f a0 a1 = some r) :
  Calls Tryz.prog 63 #[.string a0,.int .i64 a1] w fun e w' => e = .returned (.int .i64 r) ∧ Drawn0 w w':=by
 have H:(if 0 ≤ a1 then (if a1 < (a0.size:Int) then (some (wrap64 (bt a0 a1))) else (none)) else (none)) = some r:=h
 clear h
 by_cases c3:0 ≤ a1
 rotate_left
 ·rw [if_neg c3] at H
  exact absurd H (by simp)
 rw [if_pos c3] at H
 have c3b0:decide (0 ≤ a1) = true:=decide_eq_true c3
 clear c3
 by_cases c4:a1 < (a0.size:Int)
 rotate_left
 ·rw [if_neg c4] at H
  exact absurd H (by simp)
 rw [if_pos c4] at H
 have c4b0:decide (a1 < (a0.size:Int)) = true:=decide_eq_true c4
 clear c4
 obtain rfl:=Option.some.inj H
 have p5:0 ≤ (a1:Int):=of_decide_eq_true q83_
 have q5:a1 < (a0.size:Int):=of_decide_eq_true q83_
 have hx5:=bt_at a0 a1
 replace p5:=eq_true p5
 replace q5:=eq_true q5
 go_enter Tryz.func63,Tryz.ntmps63
 go_wp2
 go_ret
 exact ⟨q58_,q81_⟩
mutual
def spec_ReadIns.j0:Nat → ByteArray → Int → Int → Bool → Option (Int × Bool × Int × Int)
 | 0,_,_,_,_ => none
 | k + 1,x0,x1,x6,x18 => if x18 = true then (some (0,false,0,0)) else ((spec_l3At.f x0 x1).bind fun t257 => (if t257 = 203 then (if x6 < 2 then (some (0,false,0,0)) else ((spec_l3At.f x0 (wrap64 (x1 + 1))).bind fun t259 => (some (t259,true,0,2)))) else ((spec_l3Length.f k t257 false).bind fun t260 => (if t260 = 0 then (spec_ReadIns.j1 k x0 x1 t260 true t257 false 0) else (spec_ReadIns.j1 k x0 x1 t260 (decide (t260 > x6)) t257 false 0)))))
def spec_ReadIns.j1:Nat → ByteArray → Int → Int → Bool → Int → Bool → Int → Option (Int × Bool × Int × Int)
 | 0,_,_,_,_,_,_,_ => none
 | k + 1,x0,x1,x8,x44,x259000,x259001,x259002 => if x44 = true then (some (0,false,0,0)) else (if x8 > 1 then ((spec_l3At.f x0 (wrap64 (x1 + 1))).bind fun t261 => (spec_ReadIns.j2 k x0 x1 x8 x259000 x259001 t261)) else (spec_ReadIns.j2 k x0 x1 x8 x259000 x259001 x259002))
def spec_ReadIns.j2:Nat → ByteArray → Int → Int → Int → Bool → Int → Option (Int × Bool × Int × Int)
 | 0,_,_,_,_,_,_ => none
 | k + 1,x0,x1,x8,x259000,x259001,x259002 => if x8 > 2 then ((spec_l3At.f x0 (wrap64 (x1 + 2))).bind fun t262 => (some (x259000,x259001,wrap64 (x259002 + (wrap64 (256 * t262))),x8))) else (some (x259000,x259001,x259002,x8))
end
def spec_ReadIns.f (k:Nat) (a0:ByteArray) (a1:Int):Option (Int × Bool × Int × Int):=if a1 < 0 then (spec_ReadIns.j0 k a0 a1 (wrap64 ((a0.size:Int) - a1)) true) else (spec_ReadIns.j0 k a0 a1 (wrap64 ((a0.size:Int) - a1)) (decide ((wrap64 ((a0.size:Int) - a1)) < 1)))
theorem spec_ReadIns.mono_l:∀ k,(∀ y0 y1 y2 y3,LeO (spec_ReadIns.j0 k y0 y1 y2 y3) (spec_ReadIns.j0 (k + 1) y0 y1 y2 y3)) ∧ (∀ y0 y1 y2 y3 y4 y5 y6,LeO (spec_ReadIns.j1 k y0 y1 y2 y3 y4 y5 y6) (spec_ReadIns.j1 (k + 1) y0 y1 y2 y3 y4 y5 y6)) ∧ (∀ y0 y1 y2 y3 y4 y5,LeO (spec_ReadIns.j2 k y0 y1 y2 y3 y4 y5) (spec_ReadIns.j2 (k + 1) y0 y1 y2 y3 y4 y5))
 | 0 => ⟨fun _ _ _ _ r h => by simp [spec_ReadIns.j0] at h,fun _ _ _ _ _ _ _ r h => by simp [spec_ReadIns.j1] at h,fun _ _ _ _ _ _ r h => by simp [spec_ReadIns.j2] at h⟩
 | k + 1 => by
  obtain ⟨ih0,ih1,ih2⟩:=spec_ReadIns.mono_l k
  refine ⟨?_,?_,?_⟩
  ·intro y0 y1 y2 y3
   unfold spec_ReadIns.j0
   repeat' first
   | (with_reducible first | exact ih0 _ _ _ _ | exact ih1 _ _ _ _ _ _ _ | exact ih2 _ _ _ _ _ _ | exact spec_l3Length.mono _ _ _ | exact LeO.refl _ | exact LeO.none _ | refine LeO.ite ?_ ?_ | refine LeO.bind ?_ (fun _ => ?_))
   | exact ih0 _ _ _ _
   | exact ih1 _ _ _ _ _ _ _
   | exact ih2 _ _ _ _ _ _
   | exact spec_l3Length.mono _ _ _
   | exact LeO.none _
   | refine LeO.ite ?_ ?_
   | refine LeO.bind ?_ (fun _ => ?_)
  ·intro y0 y1 y2 y3 y4 y5 y6
   unfold spec_ReadIns.j1
   repeat' first
   | (with_reducible first | exact ih0 _ _ _ _ | exact ih1 _ _ _ _ _ _ _ | exact ih2 _ _ _ _ _ _ | exact spec_l3Length.mono _ _ _ | exact LeO.refl _ | exact LeO.none _ | refine LeO.ite ?_ ?_ | refine LeO.bind ?_ (fun _ => ?_))
   | exact ih0 _ _ _ _
   | exact ih1 _ _ _ _ _ _ _
   | exact ih2 _ _ _ _ _ _
   | exact spec_l3Length.mono _ _ _
   | exact LeO.none _
   | refine LeO.ite ?_ ?_
   | refine LeO.bind ?_ (fun _ => ?_)
  intro y0 y1 y2 y3 y4 y5
  unfold spec_ReadIns.j2
  repeat' first
  | (with_reducible first | exact ih0 _ _ _ _ | exact ih1 _ _ _ _ _ _ _ | exact ih2 _ _ _ _ _ _ | exact spec_l3Length.mono _ _ _ | exact LeO.refl _ | exact LeO.none _ | refine LeO.ite ?_ ?_ | refine LeO.bind ?_ (fun _ => ?_))
  | exact ih0 _ _ _ _
  | exact ih1 _ _ _ _ _ _ _
  | exact ih2 _ _ _ _ _ _
  | exact spec_l3Length.mono _ _ _
  | exact LeO.none _
  | refine LeO.ite ?_ ?_
  | refine LeO.bind ?_ (fun _ => ?_)
theorem spec_ReadIns.mono:∀ a0 a1 k,LeO (spec_ReadIns.f k a0 a1) (spec_ReadIns.f (k + 1) a0 a1):=by
 intro a0 a1 k
 obtain ⟨ih0,ih1,ih2⟩:=spec_ReadIns.mono_l k
 unfold spec_ReadIns.f
 repeat' first
   | (with_reducible first | exact ih0 _ _ _ _ | exact ih1 _ _ _ _ _ _ _ | exact ih2 _ _ _ _ _ _ | exact spec_l3Length.mono _ _ _ | exact LeO.refl _ | exact LeO.none _ | refine LeO.ite ?_ ?_ | refine LeO.bind ?_ (fun _ => ?_))
   | exact ih0 _ _ _ _
   | exact ih1 _ _ _ _ _ _ _
   | exact ih2 _ _ _ _ _ _
   | exact spec_l3Length.mono _ _ _
   | exact LeO.none _
   | refine LeO.ite ?_ ?_
   | refine LeO.bind ?_ (fun _ => ?_)
def spec_ReadIns.T15:Bool × List (List Nat × List Nat):=(true,[([],[]),([0],[0]),([],[]),([],[]),([3],[3]),([2,4],[2,4]),([5],[5]),([1,6],[1,6]),([0,1,2,3,4,5,6,7],[]),([8,7,5,0,1,2,3,4,5,6,7],[7,8])])
def spec_ReadIns.B15:List Nat:=[0,1,0,0,8,28,60,127,255,511]
theorem spec_ReadIns.tab15:rtab .any (opsOf Tryz.f24 15) = spec_ReadIns.T15:=by kernel_rfl
theorem spec_ReadIns.bits15:waitsOk spec_ReadIns.T15.2 spec_ReadIns.B15 = true:=by kernel_rfl
theorem spec_ReadIns.calls (k:Nat) (a0:ByteArray) (a1:Int) (r1:Int) (r2:Bool) (r3:Int) (r4:Int) (w:World) (h:spec_ReadIns.f k a0 a1 = some (r1,r2,r3,r4)) :
  Calls Tryz.prog 24 #[.string a0,.int .i64 a1] w fun e w' => e = .returned (.tuple #[.agg #[.int .i64 r1,.bool r2,.int .i64 r3],.int .i64 r4]) ∧ Below w.heap.size w w':=by
 have hu30:=Tryz.underlying30
 have HB:=Aside0.mk (Below.refl w.heap.size w)
 have H:(if a1 < 0 then (spec_ReadIns.j0 k a0 a1 (wrap64 ((a0.size:Int) - a1)) true) else (spec_ReadIns.j0 k a0 a1 (wrap64 ((a0.size:Int) - a1)) (decide ((wrap64 ((a0.size:Int) - a1)) < 1)))) = some (r1,r2,r3,r4):=h
 clear h
 have HC3:=Aside0.mk H
 clear H
 go_enter Tryz.func24,Tryz.ntmps24
 go_upto_region 2 with (first | ((with_reducible refine gate_dst (N:=4) rfl ?_);refine box_event ?hg (N:=4) ?hd (cs:=#[.int .i64 0,.bool false,.int .i64 0]) (t:=30) ?hr ?_;(case hd => rfl);(case hg => rfl);(case hr => exact q108_);intro gb256 hg w4 hbox hb;have n0_:=Aside0.mk (below_step q42_ hb);have n1_:=Aside0.mk (hbox);have n2_:=Aside0.mk ((q24_:w.heap.size ≤ gb256));have n3_:=Aside0.mk ((q24_:w.heap.size ≤ gb256));clear HB;have HB:=n0_;have BK256:=n1_;have GW256:=n2_;have GE256:=n3_;clear n0_ n1_ n2_ n3_;clear hb hbox hg))
 (try simp only [Act.put,List.setIfInBounds_toArray,List.set_cons_zero,List.set_cons_succ])
 go_cut [18] (fun v18 wc => ∃ (kq:Nat) (x18_2:Bool),v18 = .bool x18_2 ∧ Aside0 (spec_ReadIns.j0 kq a0 a1 (wrap64 ((a0.size:Int) - a1)) x18_2 = some (r1,r2,r3,r4)) ∧ Aside0 (kq ≤ k) ∧ Aside0 (wc.heap[gb256]? = some (.cells #[.int .i64 0,.bool false,.int .i64 0] 30 (0,0))) ∧ Aside0 (Below w.heap.size w wc))
 case first =>
  have H:=HC3.out
  clear HC3
  by_cases c5:a1 < 0
  ·rw [if_pos c5] at H
   have c5b0:decide (a1 < 0) = true:=decide_eq_true c5
   clear c5
   (first | rw [c5b0] | (simp only [i64_w,i32_w];rw [c5b0]) | skip)
   have H':=Aside0.mk H
   clear H
   go_wp2
   go_meet
   case rel => exact ⟨_,(true),q58_,H',⟨q95_⟩,⟨q48_⟩,⟨q25_⟩⟩
  rw [if_neg c5] at H
  have c5b0:decide (a1 < 0) = false:=decide_eq_false c5
  clear c5
  (first | rw [c5b0] | (simp only [i64_w,i32_w];rw [c5b0]) | skip)
  have H':=Aside0.mk H
  clear H
  go_wp2
  go_meet
  case rel => exact ⟨_,(decide ((wrap64 ((a0.size:Int) - a1)) < 1)),q58_,H',⟨q95_⟩,⟨q48_⟩,⟨q25_⟩⟩
 clear HC3
 try clear c2
 try clear p2
 try clear c5
 try clear c5b0
 obtain ⟨kq,x18_2,rfl,HA,HJ2,BK256,HB⟩:=hcut
 cases kq with
 | zero => exact absurd HA.out (by simp [spec_ReadIns.j0])
 | succ kj2 =>
  have H:=HA.out
  clear HA
  simp only [spec_ReadIns.j0] at H
  by_cases c6:x18_2 = true
  ·subst c6
   replace H:(some (0,false,0,0)) = some (r1,r2,r3,r4):=by rw [if_pos rfl] at H;exact H
   simp only [Option.some.injEq,Prod.mk.injEq] at H
   obtain ⟨rfl,rfl,rfl,rfl⟩:=H
   have hcz7_0:wc.cell? ⟨gb256,0,none⟩ = some (.int .i64 0):=bz_ BK256 0
   have hcz7_1:wc.cell? ⟨gb256,1,none⟩ = some (.bool false):=bz_ BK256 1
   have hcz7_2:wc.cell? ⟨gb256,2,none⟩ = some (.int .i64 0):=bz_ BK256 2
   have hfz7_0:=blk_frozen BK256.out 0
   have hfz7_1:=blk_frozen BK256.out 1
   have hfz7_2:=blk_frozen BK256.out 2
   go_wp2
   refine bodyPost_ret (results_ct rfl _ _ gb256 30 #[.int .i64 0,.bool false,.int .i64 0] (0,0) _ rfl q0_ Tryz.underlying30 rfl (by kernel_rfl)) rfl ?_
   exact ⟨q47_,q25_⟩
  replace c6:=Bool.eq_false_iff.mpr c6
  subst c6
  replace H:((spec_l3At.f a0 a1).bind fun t257 => (if t257 = 203 then (if (wrap64 ((a0.size:Int) - a1)) < 2 then (some (0,false,0,0)) else ((spec_l3At.f a0 (wrap64 (a1 + 1))).bind fun t259 => (some (t259,true,0,2)))) else ((spec_l3Length.f kj2 t257 false).bind fun t260 => (if t260 = 0 then (spec_ReadIns.j1 kj2 a0 a1 t260 true t257 false 0) else (spec_ReadIns.j1 kj2 a0 a1 t260 (decide (t260 > (wrap64 ((a0.size:Int) - a1)))) t257 false 0))))) = some (r1,r2,r3,r4):=by rw [if_neg (show ¬ (false = true) by decide)] at H;exact H
  replace H:=Option.bind_eq_some_iff.mp H
  obtain ⟨t257,A80,H⟩:=H
  have A8:=Aside0.mk A80
  clear A80
  by_cases c9:t257 = 203
  ·rw [if_pos c9] at H
   have c9b0:(t257 == 203) = true:=beq_iff_eq.mpr c9
   have c9b1:(t257 != 203) = false:=bne_eq_false_iff_eq.mpr c9
   clear c9
   by_cases c10:(wrap64 ((a0.size:Int) - a1)) < 2
   ·rw [if_pos c10] at H
    have c10b0:decide ((wrap64 ((a0.size:Int) - a1)) < 2) = true:=decide_eq_true c10
    clear c10
    simp only [Option.some.injEq,Prod.mk.injEq] at H
    obtain ⟨rfl,rfl,rfl,rfl⟩:=H
    go_wp2_with (first | ((with_reducible refine gate_callee (f:=63) rfl ?_);refine goesL_ (some 22) rfl rfl Tryz.func63 (by kernel_rfl) rfl #[.string a0,.int .i64 a1] rfl q40_ ?_;(with_reducible refine (spec_l3At.calls a0 a1 t257 _ A8.out).mono ?_);rintro e w' ⟨rfl,⟨nd,rfl⟩⟩;refine ⟨_,rfl,?_⟩;(try (rw [drewN_self wc];generalize hq_:World.drewN wc _ = wc;have n0_:Aside0 (wc.heap[gb256]? = some (.cells #[.int .i64 0,.bool false,.int .i64 0] 30 (0,0))):=⟨q38_⟩;have n1_:Aside0 (Below w.heap.size w wc):=⟨q20_⟩;clear BK256 HB hq_;have BK256:=n0_;have HB:=n1_;clear n0_ n1_))) | ((with_reducible refine gate_dst (N:=7) rfl ?_);refine box_event ?hg (N:=7) ?hd (cs:=#[.int .i64 0,.bool false,.int .i64 0]) (t:=30) ?hr ?_;(case hd => rfl);(case hg => rfl);(case hr => exact q108_);intro gb258 hg w11 hbox hb;have n0_:=Aside0.mk (blk_below (g:=gb256) (o:=.cells #[.int .i64 0,.bool false,.int .i64 0] 30 (0,0)) q48_ hb);have n1_:=Aside0.mk (below_step q25_ hb);have n2_:=Aside0.mk (hbox);have n3_:=Aside0.mk ((q16_:w.heap.size ≤ gb258));have n4_:=Aside0.mk ((q16_:w.heap.size ≤ gb258));have n5_:=Aside0.mk ((q7_:gb256 ≠ gb258));have n6_:=Aside0.mk ((q8_:gb258 ≠ gb256));clear BK256;clear HB;have BK256:=n0_;have HB:=n1_;have BK258:=n2_;have GW258:=n3_;have GE258:=n4_;have NB256_258:=n5_;have NB258_256:=n6_;clear n0_ n1_ n2_ n3_ n4_ n5_ n6_;clear hb hbox hg;have hnb12:=NB258_256.out;have hnc12:=NB256_258.out;have hcz13_0:w11.cell? ⟨gb258,0,none⟩ = some (.int .i64 0):=(blk_cell BK258.out 0).trans rfl;have hcz13_1:w11.cell? ⟨gb258,1,none⟩ = some (.bool false):=(blk_cell BK258.out 1).trans rfl;have hcz13_2:w11.cell? ⟨gb258,2,none⟩ = some (.int .i64 0):=(blk_cell BK258.out 2).trans rfl;have hfz13_0:=blk_frozen BK258.out 0;have hfz13_1:=blk_frozen BK258.out 1;have hfz13_2:=blk_frozen BK258.out 2;have hcz14_0:w11.cell? ⟨gb256,0,none⟩ = some (.int .i64 0):=(blk_cell BK256.out 0).trans rfl;have hcz14_1:w11.cell? ⟨gb256,1,none⟩ = some (.bool false):=(blk_cell BK256.out 1).trans rfl;have hcz14_2:w11.cell? ⟨gb256,2,none⟩ = some (.int .i64 0):=(blk_cell BK256.out 2).trans rfl;have hfz14_0:=blk_frozen BK256.out 0;have hfz14_1:=blk_frozen BK256.out 1;have hfz14_2:=blk_frozen BK256.out 2))
    refine bodyPost_ret (results_ct rfl _ _ gb256 30 #[.int .i64 0,.bool false,.int .i64 0] (0,0) _ rfl (by (with_reducible repeat (first | refine blk_drewN ?_ _ | refine blk_drew ?_ | refine blk_alloc ?_ _));refine blk_put (cs:=#[.int .i64 0,.bool false,.int .i64 0]) ?_ 2 _ rfl;(with_reducible repeat (first | refine blk_drewN ?_ _ | refine blk_drew ?_ | refine blk_alloc ?_ _));refine blk_put (cs:=#[.int .i64 0,.bool false,.int .i64 0]) ?_ 1 _ rfl;(with_reducible repeat (first | refine blk_drewN ?_ _ | refine blk_drew ?_ | refine blk_alloc ?_ _));refine blk_put (cs:=#[.int .i64 0,.bool false,.int .i64 0]) ?_ 0 _ rfl;(with_reducible repeat (first | refine blk_drewN ?_ _ | refine blk_drew ?_ | refine blk_alloc ?_ _));refine blk_far ?_ NB256_258.out _;(with_reducible repeat (first | refine blk_drewN ?_ _ | refine blk_drew ?_ | refine blk_alloc ?_ _));refine blk_far ?_ NB256_258.out _;(with_reducible repeat (first | refine blk_drewN ?_ _ | refine blk_drew ?_ | refine blk_alloc ?_ _));refine blk_far ?_ NB256_258.out _;(with_reducible repeat (first | refine blk_drewN ?_ _ | refine blk_drew ?_ | refine blk_alloc ?_ _));exact BK256.out) Tryz.underlying30 rfl (by kernel_rfl)) rfl ?_
    exact ⟨q47_,q18_⟩
   rw [if_neg c10] at H
   have c10b0:decide ((wrap64 ((a0.size:Int) - a1)) < 2) = false:=decide_eq_false c10
   clear c10
   replace H:=Option.bind_eq_some_iff.mp H
   obtain ⟨t259,A150,H⟩:=H
   have A15:=Aside0.mk A150
   clear A150
   simp only [Option.some.injEq,Prod.mk.injEq] at H
   obtain ⟨rfl,rfl,rfl,rfl⟩:=H
   go_wp2_with (first | ((with_reducible refine gate_callee (f:=63) rfl ?_);refine goesL_ (some 22) rfl rfl Tryz.func63 (by kernel_rfl) rfl #[.string a0,.int .i64 a1] rfl q40_ ?_;(with_reducible refine (spec_l3At.calls a0 a1 t257 _ A8.out).mono ?_);rintro e w' ⟨rfl,⟨nd,rfl⟩⟩;refine ⟨_,rfl,?_⟩;(try (rw [drewN_self wc];generalize hq_:World.drewN wc _ = wc;have n0_:Aside0 (wc.heap[gb256]? = some (.cells #[.int .i64 0,.bool false,.int .i64 0] 30 (0,0))):=⟨q38_⟩;have n1_:Aside0 (Below w.heap.size w wc):=⟨q20_⟩;clear BK256 HB hq_;have BK256:=n0_;have HB:=n1_;clear n0_ n1_))) | ((with_reducible refine gate_dst (N:=7) rfl ?_);refine box_event ?hg (N:=7) ?hd (cs:=#[.int .i64 0,.bool false,.int .i64 0]) (t:=30) ?hr ?_;(case hd => rfl);(case hg => rfl);(case hr => exact q108_);intro gb258 hg w16 hbox hb;have n0_:=Aside0.mk (blk_below (g:=gb256) (o:=.cells #[.int .i64 0,.bool false,.int .i64 0] 30 (0,0)) q48_ hb);have n1_:=Aside0.mk (below_step q25_ hb);have n2_:=Aside0.mk (hbox);have n3_:=Aside0.mk ((q16_:w.heap.size ≤ gb258));have n4_:=Aside0.mk ((q16_:w.heap.size ≤ gb258));have n5_:=Aside0.mk ((q7_:gb256 ≠ gb258));have n6_:=Aside0.mk ((q8_:gb258 ≠ gb256));clear BK256;clear HB;have BK256:=n0_;have HB:=n1_;have BK258:=n2_;have GW258:=n3_;have GE258:=n4_;have NB256_258:=n5_;have NB258_256:=n6_;clear n0_ n1_ n2_ n3_ n4_ n5_ n6_;clear hb hbox hg;have hnb17:=NB258_256.out;have hnc17:=NB256_258.out;have hcz18_0:w16.cell? ⟨gb258,0,none⟩ = some (.int .i64 0):=(blk_cell BK258.out 0).trans rfl;have hcz18_1:w16.cell? ⟨gb258,1,none⟩ = some (.bool false):=(blk_cell BK258.out 1).trans rfl;have hcz18_2:w16.cell? ⟨gb258,2,none⟩ = some (.int .i64 0):=(blk_cell BK258.out 2).trans rfl;have hfz18_0:=blk_frozen BK258.out 0;have hfz18_1:=blk_frozen BK258.out 1;have hfz18_2:=blk_frozen BK258.out 2) | ((with_reducible refine gate_callee (f:=63) rfl ?_);refine goesL_ (some 33) rfl rfl Tryz.func63 (by kernel_rfl) rfl #[.string a0,.int .i64 (wrap64 (a1 + 1))] rfl q10_ ?_;(with_reducible refine (spec_l3At.calls a0 (wrap64 (a1 + 1)) t259 _ A15.out).mono ?_);rintro e w' ⟨rfl,⟨nd,rfl⟩⟩;refine ⟨_,rfl,?_⟩;have hcz19_0:w16.cell? ⟨gb256,0,none⟩ = some (.int .i64 0):=(blk_cell BK256.out 0).trans rfl;have hcz19_1:w16.cell? ⟨gb256,1,none⟩ = some (.bool false):=(blk_cell BK256.out 1).trans rfl;have hcz19_2:w16.cell? ⟨gb256,2,none⟩ = some (.int .i64 0):=(blk_cell BK256.out 2).trans rfl;have hfz19_0:=blk_frozen BK256.out 0;have hfz19_1:=blk_frozen BK256.out 1;have hfz19_2:=blk_frozen BK256.out 2))
   refine bodyPost_ret (results_ct rfl _ _ gb256 30 #[.int .i64 t259,.bool true,.int .i64 0] (0,0) _ rfl (by (with_reducible repeat (first | refine blk_drewN ?_ _ | refine blk_drew ?_ | refine blk_alloc ?_ _));refine blk_put (cs:=#[.int .i64 t259,.bool true,.int .i64 0]) ?_ 2 _ rfl;(with_reducible repeat (first | refine blk_drewN ?_ _ | refine blk_drew ?_ | refine blk_alloc ?_ _));refine blk_put (cs:=#[.int .i64 t259,.bool false,.int .i64 0]) ?_ 1 _ rfl;(with_reducible repeat (first | refine blk_drewN ?_ _ | refine blk_drew ?_ | refine blk_alloc ?_ _));refine blk_put (cs:=#[.int .i64 0,.bool false,.int .i64 0]) ?_ 0 _ rfl;(with_reducible repeat (first | refine blk_drewN ?_ _ | refine blk_drew ?_ | refine blk_alloc ?_ _));refine blk_far ?_ NB256_258.out _;(with_reducible repeat (first | refine blk_drewN ?_ _ | refine blk_drew ?_ | refine blk_alloc ?_ _));refine blk_far ?_ NB256_258.out _;(with_reducible repeat (first | refine blk_drewN ?_ _ | refine blk_drew ?_ | refine blk_alloc ?_ _));refine blk_far ?_ NB256_258.out _;(with_reducible repeat (first | refine blk_drewN ?_ _ | refine blk_drew ?_ | refine blk_alloc ?_ _));exact BK256.out) Tryz.underlying30 rfl (by kernel_rfl)) rfl ?_
   exact ⟨q47_,q18_⟩
  rw [if_neg c9] at H
  have c9b0:(t257 == 203) = false:=beq_eq_false_iff_ne.mpr c9
  have c9b1:(t257 != 203) = true:=bne_iff_ne.mpr c9
  replace H:=Option.bind_eq_some_iff.mp H
  obtain ⟨t260,A200,H⟩:=H
  have A20:=Aside0.mk A200
  clear A200
  have HC21:=Aside0.mk H
  clear H
  go_upto_region 10 with (first | ((with_reducible refine gate_callee (f:=63) rfl ?_);refine goesL_ (some 22) rfl rfl Tryz.func63 (by kernel_rfl) rfl #[.string a0,.int .i64 a1] rfl q40_ ?_;(with_reducible refine (spec_l3At.calls a0 a1 t257 _ A8.out).mono ?_);rintro e w' ⟨rfl,⟨nd,rfl⟩⟩;refine ⟨_,rfl,?_⟩;(try (rw [drewN_self wc];generalize hq_:World.drewN wc _ = wc;have n0_:Aside0 (wc.heap[gb256]? = some (.cells #[.int .i64 0,.bool false,.int .i64 0] 30 (0,0))):=⟨q38_⟩;have n1_:Aside0 (Below w.heap.size w wc):=⟨q20_⟩;clear BK256 HB hq_;have BK256:=n0_;have HB:=n1_;clear n0_ n1_))) | ((with_reducible refine gate_dst (N:=7) rfl ?_);refine box_event ?hg (N:=7) ?hd (cs:=#[.int .i64 0,.bool false,.int .i64 0]) (t:=30) ?hr ?_;(case hd => rfl);(case hg => rfl);(case hr => exact q108_);intro gb258 hg w22 hbox hb;have n0_:=Aside0.mk (blk_below (g:=gb256) (o:=.cells #[.int .i64 0,.bool false,.int .i64 0] 30 (0,0)) q48_ hb);have n1_:=Aside0.mk (below_step q25_ hb);have n2_:=Aside0.mk (hbox);have n3_:=Aside0.mk ((q16_:w.heap.size ≤ gb258));have n4_:=Aside0.mk ((q16_:w.heap.size ≤ gb258));have n5_:=Aside0.mk ((q7_:gb256 ≠ gb258));have n6_:=Aside0.mk ((q8_:gb258 ≠ gb256));clear BK256;clear HB;have BK256:=n0_;have HB:=n1_;have BK258:=n2_;have GW258:=n3_;have GE258:=n4_;have NB256_258:=n5_;have NB258_256:=n6_;clear n0_ n1_ n2_ n3_ n4_ n5_ n6_;clear hb hbox hg;have hnb23:=NB258_256.out;have hnc23:=NB256_258.out;have hcz24_0:w22.cell? ⟨gb258,0,none⟩ = some (.int .i64 0):=(blk_cell BK258.out 0).trans rfl;have hcz24_1:w22.cell? ⟨gb258,1,none⟩ = some (.bool false):=(blk_cell BK258.out 1).trans rfl;have hcz24_2:w22.cell? ⟨gb258,2,none⟩ = some (.int .i64 0):=(blk_cell BK258.out 2).trans rfl;have hfz24_0:=blk_frozen BK258.out 0;have hfz24_1:=blk_frozen BK258.out 1;have hfz24_2:=blk_frozen BK258.out 2) | ((with_reducible refine gate_callee (f:=52) rfl ?_);refine goesL_ (some 37) rfl rfl Tryz.func52 (by kernel_rfl) rfl #[.int .i64 t257,.bool false] rfl q40_ ?_;(with_reducible refine (spec_l3Length.calls kj2 t257 false t260 _ A20.out).mono ?_);rintro e w25 ⟨rfl,hb⟩;refine ⟨_,rfl,?_⟩;have n0_:=Aside0.mk (blk_below (g:=gb256) (o:=.cells #[.int .i64 0,.bool false,.int .i64 0] 30 (0,0)) (by (with_reducible repeat (first | refine blk_drewN ?_ _ | refine blk_drew ?_ | refine blk_alloc ?_ _));refine blk_far ?_ NB256_258.out _;(with_reducible repeat (first | refine blk_drewN ?_ _ | refine blk_drew ?_ | refine blk_alloc ?_ _));refine blk_far ?_ NB256_258.out _;(with_reducible repeat (first | refine blk_drewN ?_ _ | refine blk_drew ?_ | refine blk_alloc ?_ _));refine blk_far ?_ NB256_258.out _;(with_reducible repeat (first | refine blk_drewN ?_ _ | refine blk_drew ?_ | refine blk_alloc ?_ _));exact BK256.out) hb);have n1_:=Aside0.mk (blk_below (g:=gb258) (o:=.cells #[.int .i64 t257,.bool false,.int .i64 0] 30 (0,0)) (by (with_reducible repeat (first | refine blk_drewN ?_ _ | refine blk_drew ?_ | refine blk_alloc ?_ _));refine blk_put (cs:=#[.int .i64 t257,.bool false,.int .i64 0]) ?_ 2 _ rfl;(with_reducible repeat (first | refine blk_drewN ?_ _ | refine blk_drew ?_ | refine blk_alloc ?_ _));refine blk_put (cs:=#[.int .i64 t257,.bool false,.int .i64 0]) ?_ 1 _ rfl;(with_reducible repeat (first | refine blk_drewN ?_ _ | refine blk_drew ?_ | refine blk_alloc ?_ _));refine blk_put (cs:=#[.int .i64 0,.bool false,.int .i64 0]) ?_ 0 _ rfl;(with_reducible repeat (first | refine blk_drewN ?_ _ | refine blk_drew ?_ | refine blk_alloc ?_ _));exact BK258.out) hb);have n2_:=Aside0.mk (below_step q18_ hb);clear BK256;clear BK258;clear HB;have BK256:=n0_;have BK258:=n1_;have HB:=n2_;clear n0_ n1_ n2_;(try clear hb)))
  (try simp only [Act.put,List.setIfInBounds_toArray,List.set_cons_zero,List.set_cons_succ])
  go_cut [44] (fun v44 wc => ∃ (kq:Nat) (x44_20:Bool),v44 = .bool x44_20 ∧ Aside0 (spec_ReadIns.j1 kq a0 a1 t260 x44_20 t257 false 0 = some (r1,r2,r3,r4)) ∧ Aside0 (kq ≤ kj2) ∧ Aside0 (wc.heap[gb256]? = some (.cells #[.int .i64 0,.bool false,.int .i64 0] 30 (0,0))) ∧ Aside0 (wc.heap[gb258]? = some (.cells #[.int .i64 t257,.bool false,.int .i64 0] 30 (0,0))) ∧ Aside0 (Below w.heap.size w wc))
  case first =>
   have H:=HC21.out
   clear HC21
   by_cases c26:t260 = 0
   ·rw [if_pos c26] at H
    have c26b0:(t260 == 0) = true:=beq_iff_eq.mpr c26
    have c26b1:(t260 != 0) = false:=bne_eq_false_iff_eq.mpr c26
    clear c26
    (first | rw [c26b0] | (simp only [i64_w,i32_w];rw [c26b0]) | skip)
    have H':=Aside0.mk H
    clear H
    go_wp2
    go_meet
    case rel => exact ⟨_,(true),q58_,H',⟨by have:=HJ2.out;first | omega | exact Nat.le_refl _⟩,⟨q48_⟩,⟨q49_⟩,⟨q18_⟩⟩
   rw [if_neg c26] at H
   have c26b0:(t260 == 0) = false:=beq_eq_false_iff_ne.mpr c26
   have c26b1:(t260 != 0) = true:=bne_iff_ne.mpr c26
   (first | rw [c26b0] | (simp only [i64_w,i32_w];rw [c26b0]) | skip)
   have H':=Aside0.mk H
   clear H
   go_wp2
   go_meet
   case rel => exact ⟨_,(decide (t260 > (wrap64 ((a0.size:Int) - a1)))),q58_,H',⟨by have:=HJ2.out;first | omega | exact Nat.le_refl _⟩,⟨q48_⟩,⟨q49_⟩,⟨q18_⟩⟩
  clear HC21
  try clear c1
  try clear c2
  try clear p2 p2
  try clear c5
  try clear c5b0
  try clear c6
  try clear p6
  try clear c9
  try clear c9b0
  try clear c9b1
  try clear c10
  try clear c10b0
  try clear c12
  try clear c17
  try clear c23
  try clear c24
  try clear c26
  try clear c26b0
  try clear c26b1
  try clear hcz13_0 hcz13_1 hcz13_2
  try clear hcz14_0 hcz14_1 hcz14_2
  try clear hcz18_0 hcz18_1 hcz18_2
  try clear hcz19_0 hcz19_1 hcz19_2
  try clear hcz24_0 hcz24_1 hcz24_2
  try clear hcz7_0 hcz7_1 hcz7_2
  try clear hfz13_0 hfz13_1 hfz13_2
  try clear hfz14_0 hfz14_1 hfz14_2
  try clear hfz18_0 hfz18_1 hfz18_2
  try clear hfz19_0 hfz19_1 hfz19_2
  try clear hfz24_0 hfz24_1 hfz24_2
  try clear hfz7_0 hfz7_1 hfz7_2
  obtain ⟨kq,x44_20,rfl,HA,HJ20,BK256,BK258,HB⟩:=hcut
  cases kq with
  | zero => exact absurd HA.out (by simp [spec_ReadIns.j1])
  | succ kj20 =>
   have H:=HA.out
   clear HA
   simp only [spec_ReadIns.j1] at H
   by_cases c27:x44_20 = true
   ·subst c27
    replace H:(some (0,false,0,0)) = some (r1,r2,r3,r4):=by rw [if_pos rfl] at H;exact H
    simp only [Option.some.injEq,Prod.mk.injEq] at H
    obtain ⟨rfl,rfl,rfl,rfl⟩:=H
    have hnb28:=NB256_258.out
    have hnc28:=NB258_256.out
    have hcz29_0:wc.cell? ⟨gb256,0,none⟩ = some (.int .i64 0):=bz_ BK256 0
    have hcz29_1:wc.cell? ⟨gb256,1,none⟩ = some (.bool false):=bz_ BK256 1
    have hcz29_2:wc.cell? ⟨gb256,2,none⟩ = some (.int .i64 0):=bz_ BK256 2
    have hfz29_0:=blk_frozen BK256.out 0
    have hfz29_1:=blk_frozen BK256.out 1
    have hfz29_2:=blk_frozen BK256.out 2
    go_wp2
    refine bodyPost_ret (results_ct rfl _ _ gb256 30 #[.int .i64 0,.bool false,.int .i64 0] (0,0) _ rfl q0_ Tryz.underlying30 rfl (by kernel_rfl)) rfl ?_
    exact ⟨q47_,q18_⟩
   replace c27:=Bool.eq_false_iff.mpr c27
   subst c27
   replace H:(if t260 > 1 then ((spec_l3At.f a0 (wrap64 (a1 + 1))).bind fun t261 => (spec_ReadIns.j2 kj20 a0 a1 t260 t257 false t261)) else (spec_ReadIns.j2 kj20 a0 a1 t260 t257 false 0)) = some (r1,r2,r3,r4):=by rw [if_neg (show ¬ (false = true) by decide)] at H;exact H
   have HC30:=Aside0.mk H
   clear H
   go_upto_if 47 with (fail)
   go_cut [] (fun wc => ∃ (kq:Nat) (x259002_29:Int),Aside0 (spec_ReadIns.j2 kq a0 a1 t260 t257 false x259002_29 = some (r1,r2,r3,r4)) ∧ Aside0 (kq ≤ kj20) ∧ Aside0 (wc.heap[gb256]? = some (.cells #[.int .i64 0,.bool false,.int .i64 0] 30 (0,0))) ∧ Aside0 (wc.heap[gb258]? = some (.cells #[.int .i64 t257,.bool false,.int .i64 x259002_29] 30 (0,0))) ∧ Aside0 (Below w.heap.size w wc))
   case first =>
    have H:=HC30.out
    clear HC30
    by_cases c31:t260 > 1
    ·rw [if_pos c31] at H
     have c31b0:decide (1 < t260) = true:=decide_eq_true c31
     clear c31
     (first | rw [c31b0] | (simp only [i64_w,i32_w];rw [c31b0]) | skip)
     replace H:=Option.bind_eq_some_iff.mp H
     obtain ⟨t261,A320,H⟩:=H
     have A32:=Aside0.mk A320
     clear A320
     have H':=Aside0.mk H
     clear H
     go_wp2_with (first | ((with_reducible refine gate_callee (f:=63) rfl ?_);refine goesL_ (some 51) rfl rfl Tryz.func63 (by kernel_rfl) rfl #[.string a0,.int .i64 (wrap64 (a1 + 1))] rfl q10_ ?_;(with_reducible refine (spec_l3At.calls a0 (wrap64 (a1 + 1)) t261 _ A32.out).mono ?_);rintro e w' ⟨rfl,⟨nd,rfl⟩⟩;refine ⟨_,rfl,?_⟩;(try (rw [drewN_self wc];generalize hq_:World.drewN wc _ = wc;have n0_:Aside0 (wc.heap[gb256]? = some (.cells #[.int .i64 0,.bool false,.int .i64 0] 30 (0,0))):=⟨q38_⟩;have n1_:Aside0 (wc.heap[gb258]? = some (.cells #[.int .i64 t257,.bool false,.int .i64 0] 30 (0,0))):=⟨by rw [← hq_];exact q49_⟩;have n2_:Aside0 (Below w.heap.size w wc):=⟨by rw [← hq_];exact q18_⟩;clear BK256 BK258 HB hq_;have BK256:=n0_;have BK258:=n1_;have HB:=n2_;clear n0_ n1_ n2_));have hnb33:=NB258_256.out;have hnc33:=NB256_258.out;have hcz34_0:wc.cell? ⟨gb258,0,none⟩ = some (.int .i64 t257):=(blk_cell BK258.out 0).trans rfl;have hcz34_1:wc.cell? ⟨gb258,1,none⟩ = some (.bool false):=(blk_cell BK258.out 1).trans rfl;have hcz34_2:wc.cell? ⟨gb258,2,none⟩ = some (.int .i64 0):=(blk_cell BK258.out 2).trans rfl;have hfz34_0:=blk_frozen BK258.out 0;have hfz34_1:=blk_frozen BK258.out 1;have hfz34_2:=blk_frozen BK258.out 2))
     go_meet
     case rel => exact ⟨_,(t261),H',⟨by have:=HJ2.out;have:=HJ20.out;first | omega | exact Nat.le_refl _⟩,⟨by (with_reducible repeat (first | refine blk_drewN ?_ _ | refine blk_drew ?_ | refine blk_alloc ?_ _));refine blk_far ?_ NB256_258.out _;(with_reducible repeat (first | refine blk_drewN ?_ _ | refine blk_drew ?_ | refine blk_alloc ?_ _));exact BK256.out⟩,⟨by (with_reducible repeat (first | refine blk_drewN ?_ _ | refine blk_drew ?_ | refine blk_alloc ?_ _));refine blk_put (cs:=#[.int .i64 t257,.bool false,.int .i64 0]) ?_ 2 _ rfl;(with_reducible repeat (first | refine blk_drewN ?_ _ | refine blk_drew ?_ | refine blk_alloc ?_ _));exact BK258.out⟩,⟨q18_⟩⟩
    rw [if_neg c31] at H
    have c31b0:decide (1 < t260) = false:=decide_eq_false c31
    clear c31
    (first | rw [c31b0] | (simp only [i64_w,i32_w];rw [c31b0]) | skip)
    have H':=Aside0.mk H
    clear H
    go_wp2
    go_meet
    case rel => exact ⟨_,(0),H',⟨by have:=HJ2.out;have:=HJ20.out;first | omega | exact Nat.le_refl _⟩,⟨q48_⟩,⟨q49_⟩,⟨q18_⟩⟩
   clear HC30
   try clear c1
   try clear c2
   try clear p2 p2
   try clear c3
   try clear c5
   try clear c5b0
   try clear c6
   try clear p6 p6
   try clear c9
   try clear c9b0
   try clear c9b1
   try clear c10
   try clear c10b0
   try clear c12
   try clear c17
   try clear c23
   try clear c24
   try clear c26
   try clear c26b0
   try clear c26b1
   try clear c27
   try clear c28
   try clear c31
   try clear c31b0
   try clear c33
   try clear hcz13_0 hcz13_1 hcz13_2
   try clear hcz14_0 hcz14_1 hcz14_2
   try clear hcz18_0 hcz18_1 hcz18_2
   try clear hcz19_0 hcz19_1 hcz19_2
   try clear hcz24_0 hcz24_1 hcz24_2
   try clear hcz29_0 hcz29_1 hcz29_2
   try clear hcz34_0 hcz34_1 hcz34_2
   try clear hcz7_0 hcz7_1 hcz7_2
   try clear hfz13_0 hfz13_1 hfz13_2
   try clear hfz14_0 hfz14_1 hfz14_2
   try clear hfz18_0 hfz18_1 hfz18_2
   try clear hfz19_0 hfz19_1 hfz19_2
   try clear hfz24_0 hfz24_1 hfz24_2
   try clear hfz29_0 hfz29_1 hfz29_2
   try clear hfz34_0 hfz34_1 hfz34_2
   try clear hfz7_0 hfz7_1 hfz7_2
   obtain ⟨kq,x259002_29,HA,HJ29,BK256,BK258,HB⟩:=hcut
   cases kq with
   | zero => exact absurd HA.out (by simp [spec_ReadIns.j2])
   | succ kj29 =>
    have H:=HA.out
    clear HA
    simp only [spec_ReadIns.j2] at H
    by_cases c35:t260 > 2
    ·rw [if_pos c35] at H
     have c35b0:decide (2 < t260) = true:=decide_eq_true c35
     clear c35
     replace H:=Option.bind_eq_some_iff.mp H
     obtain ⟨t262,A360,H⟩:=H
     have A36:=Aside0.mk A360
     clear A360
     simp only [Option.some.injEq,Prod.mk.injEq] at H
     obtain ⟨rfl,rfl,rfl,rfl⟩:=H
     try go_wp2
     have n0_:=Aside0.mk (blk_drew BK256.out)
     have n1_:=Aside0.mk (blk_drew BK258.out)
     have n2_:=Aside0.mk (below_drew1 HB.out)
     clear BK256
     clear BK258
     clear HB
     have BK256:=n0_
     have BK258:=n1_
     have HB:=n2_
     clear n0_ n1_ n2_
     refine start_ (n:=10) (S:=fun w' => w'.cell? ⟨gb258,0,none⟩ = some (.int .i64 t257) ∧ w'.cell? ⟨gb258,1,none⟩ = some (.bool false) ∧ w'.cell? ⟨gb258,2,none⟩ = some (.int .i64 x259002_29)) (ds:=[9]) #[false,false,false,false,false,false,false,false,false,false] (by kernel_rfl) rfl rfl ⟨(blk_cell BK258.out 0).trans rfl,(blk_cell BK258.out 1).trans rfl,(blk_cell BK258.out 2).trans rfl⟩ (fun hHeld => ?_);refine with_tabW spec_ReadIns.tab15 spec_ReadIns.bits15 (fun HT_ HW_ => ?_)
     generalize wc.drew = w37 at BK256 BK258 HB hHeld ⊢
     refine pure_ (i:=0) (N:=some 55) (v:=?_) (a':=?_) #[true,false,false,false,false,false,false,false,false,false] rfl rfl (any_of HT_.out (by kernel_rfl)) (fun _ _ _ h => h) (Or.inl ⟨by rfl,?_⟩) ?_ ?_
     rotate_left
     ·intro w'
      go_simp
      with_reducible rfl
     rotate_left
     ·simp only [Act.put,List.setIfInBounds_toArray,List.set_cons_zero,List.set_cons_succ,i64_w,i32_w]
      rfl
     refine pure_ (i:=2) (N:=some 57) (v:=?_) (a':=?_) #[true,false,true,false,false,false,false,false,false,false] rfl rfl (any_of HT_.out (by kernel_rfl)) (fun _ _ _ h => h) (Or.inl ⟨by rfl,?_⟩) ?_ ?_
     rotate_left
     ·intro w'
      go_simp
      with_reducible rfl
     rotate_left
     ·simp only [Act.put,List.setIfInBounds_toArray,List.set_cons_zero,List.set_cons_succ,i64_w,i32_w]
      rfl
     refine pure_ (i:=3) (N:=some 58) (v:=?_) (a':=?_) #[true,false,true,true,false,false,false,false,false,false] rfl rfl (any_of HT_.out (by kernel_rfl)) (fun _ _ _ h => h) (Or.inl ⟨by rfl,?_⟩) ?_ ?_
     rotate_left
     ·intro w'
      go_simp
      with_reducible rfl
     rotate_left
     ·simp only [Act.put,List.setIfInBounds_toArray,List.set_cons_zero,List.set_cons_succ,i64_w,i32_w]
      rfl
     refine pure_ (i:=4) (N:=some 59) (v:=?_) (a':=?_) #[true,false,true,true,true,false,false,false,false,false] rfl rfl (any_of HT_.out (by kernel_rfl)) (fun _ _ _ h => h) (Or.inl ⟨by rfl,?_⟩) ?_ ?_
     rotate_left
     ·intro w'
      go_simp
      with_reducible rfl
     rotate_left
     ·simp only [Act.put,List.setIfInBounds_toArray,List.set_cons_zero,List.set_cons_succ,i64_w,i32_w]
      rfl
     refine take_ (i:=1) (N:=some 56) (v:=?_) (a':=?_) #[true,true,true,true,true,false,false,false,false,false] rfl rfl (take_ofW HT_.out HW_.out (by kernel_rfl)) (fun _ _ _ h => h) (Or.inl ⟨by rfl,?_⟩) hHeld ?_ ?_
     rotate_left
     ·rintro w' ⟨s0,s1,s2⟩
      go_simp
      with_reducible rfl
     rotate_left
     ·simp only [Act.put,List.setIfInBounds_toArray,List.set_cons_zero,List.set_cons_succ,i64_w,i32_w]
      rfl
     refine one_ (i:=5) (N:=some 60) #[true,true,true,true,true,true,false,false,false,false] rfl rfl (one_of HT_.out (by kernel_rfl)) (by decide) (fun K hK => ?_)
     refine goes_ Tryz.func63 (by kernel_rfl) rfl #[.string a0,.int .i64 (wrap64 (a1 + 2))] (by rfl) rfl rfl q40_ ?_
     with_reducible refine (spec_l3At.calls a0 (wrap64 (a1 + 2)) t262 _ A36.out).mono ?_
     rintro e w' ⟨rfl,⟨nd,rfl⟩⟩
     refine ⟨_,rfl,?_⟩
     refine hK.out _ _ ⟨(blk_cell BK258.out 0).trans rfl,(blk_cell BK258.out 1).trans rfl,(blk_cell BK258.out 2).trans rfl⟩ (fun hHeld => ?_)
     clear hK K
     refine norm_ (a':=?_) ?_ ?_
     rotate_left
     ·show Act.put _ (some 60) _ = _
      simp only [Act.put,List.setIfInBounds_toArray,List.set_cons_zero,List.set_cons_succ,i64_w,i32_w]
      rfl
     refine pure_ (i:=6) (N:=some 61) (v:=?_) (a':=?_) #[true,true,true,true,true,true,true,false,false,false] rfl rfl (any_of HT_.out (by kernel_rfl)) (fun _ _ _ h => h) (Or.inl ⟨by rfl,?_⟩) ?_ ?_
     rotate_left
     ·intro w'
      go_simp
      with_reducible rfl
     rotate_left
     ·simp only [Act.put,List.setIfInBounds_toArray,List.set_cons_zero,List.set_cons_succ,i64_w,i32_w]
      rfl
     refine pure_ (i:=7) (N:=some 62) (v:=?_) (a':=?_) #[true,true,true,true,true,true,true,true,false,false] rfl rfl (any_of HT_.out (by kernel_rfl)) (fun _ _ _ h => h) (Or.inl ⟨by rfl,?_⟩) ?_ ?_
     rotate_left
     ·intro w'
      go_simp
      with_reducible rfl
     rotate_left
     ·simp only [Act.put,List.setIfInBounds_toArray,List.set_cons_zero,List.set_cons_succ,i64_w,i32_w]
      rfl
     refine pure_ (i:=8) (N:=some 63) (v:=?_) (a':=?_) #[true,true,true,true,true,true,true,true,true,false] rfl rfl (any_of HT_.out (by kernel_rfl)) (fun _ _ _ h => h) (Or.inl ⟨by rfl,?_⟩) ?_ ?_
     rotate_left
     ·intro w'
      go_simp
      with_reducible rfl
     rotate_left
     ·simp only [Act.put,List.setIfInBounds_toArray,List.set_cons_zero,List.set_cons_succ,i64_w,i32_w]
      rfl
     refine last_ (i:=9) (N:=none) #[true,true,true,true,true,true,true,true,true,true] rfl rfl (one_of HT_.out (by kernel_rfl)) (by decide) (fun K hK => ?_)
     have hs38:w37.cell? ⟨gb258,2,none⟩ = some (.int .i64 x259002_29):=bz_ BK258 2
     have hfs38:=blk_frozen BK258.out 2
     have hns38_0:=NB256_258.out
     have hms38_0:=NB258_256.out
     refine skip_ (w1:=?_) (by rfl) rfl ?_ ?_
     rotate_left
     ·go_simp
      rfl
     refine hK.out _ _ ?_
     clear hK K
     refine done_ (done_of HT_.out (by kernel_rfl)) ?_
     have hnb39:=NB258_256.out
     have hnc39:=NB256_258.out
     have hcz40_0:w37.cell? ⟨gb258,0,none⟩ = some (.int .i64 t257):=bz_ BK258 0
     have hcz40_1:w37.cell? ⟨gb258,1,none⟩ = some (.bool false):=bz_ BK258 1
     have hcz40_2:w37.cell? ⟨gb258,2,none⟩ = some (.int .i64 x259002_29):=bz_ BK258 2
     have hfz40_0:=blk_frozen BK258.out 0
     have hfz40_1:=blk_frozen BK258.out 1
     have hfz40_2:=blk_frozen BK258.out 2
     have hcz41_0:w37.cell? ⟨gb256,0,none⟩ = some (.int .i64 0):=bz_ BK256 0
     have hcz41_1:w37.cell? ⟨gb256,1,none⟩ = some (.bool false):=bz_ BK256 1
     have hcz41_2:w37.cell? ⟨gb256,2,none⟩ = some (.int .i64 0):=bz_ BK256 2
     have hfz41_0:=blk_frozen BK256.out 0
     have hfz41_1:=blk_frozen BK256.out 1
     have hfz41_2:=blk_frozen BK256.out 2
     try go_wp2
     refine bodyPost_ret (results_ct rfl _ _ gb256 30 #[.int .i64 t257,.bool false,.int .i64 (wrap64 (x259002_29 + (wrap64 (256 * t262))))] (0,0) _ rfl (by (with_reducible repeat (first | refine blk_drewN ?_ _ | refine blk_drew ?_ | refine blk_alloc ?_ _));refine blk_put (cs:=#[.int .i64 t257,.bool false,.int .i64 0]) ?_ 2 _ rfl;(with_reducible repeat (first | refine blk_drewN ?_ _ | refine blk_drew ?_ | refine blk_alloc ?_ _));refine blk_put (cs:=#[.int .i64 t257,.bool false,.int .i64 0]) ?_ 1 _ rfl;(with_reducible repeat (first | refine blk_drewN ?_ _ | refine blk_drew ?_ | refine blk_alloc ?_ _));refine blk_put (cs:=#[.int .i64 0,.bool false,.int .i64 0]) ?_ 0 _ rfl;(with_reducible repeat (first | refine blk_drewN ?_ _ | refine blk_drew ?_ | refine blk_alloc ?_ _));refine blk_far ?_ NB256_258.out _;(with_reducible repeat (first | refine blk_drewN ?_ _ | refine blk_drew ?_ | refine blk_alloc ?_ _));exact BK256.out) Tryz.underlying30 rfl (by kernel_rfl)) rfl ?_
     exact ⟨q47_,q18_⟩
    rw [if_neg c35] at H
    have c35b0:decide (2 < t260) = false:=decide_eq_false c35
    clear c35
    simp only [Option.some.injEq,Prod.mk.injEq] at H
    obtain ⟨rfl,rfl,rfl,rfl⟩:=H
    have hnb42:=NB258_256.out
    have hnc42:=NB256_258.out
    have hcz43_0:wc.cell? ⟨gb258,0,none⟩ = some (.int .i64 t257):=bz_ BK258 0
    have hcz43_1:wc.cell? ⟨gb258,1,none⟩ = some (.bool false):=bz_ BK258 1
    have hcz43_2:wc.cell? ⟨gb258,2,none⟩ = some (.int .i64 x259002_29):=bz_ BK258 2
    have hfz43_0:=blk_frozen BK258.out 0
    have hfz43_1:=blk_frozen BK258.out 1
    have hfz43_2:=blk_frozen BK258.out 2
    have hcz44_0:wc.cell? ⟨gb256,0,none⟩ = some (.int .i64 0):=bz_ BK256 0
    have hcz44_1:wc.cell? ⟨gb256,1,none⟩ = some (.bool false):=bz_ BK256 1
    have hcz44_2:wc.cell? ⟨gb256,2,none⟩ = some (.int .i64 0):=bz_ BK256 2
    have hfz44_0:=blk_frozen BK256.out 0
    have hfz44_1:=blk_frozen BK256.out 1
    have hfz44_2:=blk_frozen BK256.out 2
    go_wp2
    refine bodyPost_ret (results_ct rfl _ _ gb256 30 #[.int .i64 t257,.bool false,.int .i64 x259002_29] (0,0) _ rfl (by (with_reducible repeat (first | refine blk_drewN ?_ _ | refine blk_drew ?_ | refine blk_alloc ?_ _));refine blk_put (cs:=#[.int .i64 t257,.bool false,.int .i64 0]) ?_ 2 _ rfl;(with_reducible repeat (first | refine blk_drewN ?_ _ | refine blk_drew ?_ | refine blk_alloc ?_ _));refine blk_put (cs:=#[.int .i64 t257,.bool false,.int .i64 0]) ?_ 1 _ rfl;(with_reducible repeat (first | refine blk_drewN ?_ _ | refine blk_drew ?_ | refine blk_alloc ?_ _));refine blk_put (cs:=#[.int .i64 0,.bool false,.int .i64 0]) ?_ 0 _ rfl;(with_reducible repeat (first | refine blk_drewN ?_ _ | refine blk_drew ?_ | refine blk_alloc ?_ _));exact BK256.out) Tryz.underlying30 rfl (by kernel_rfl)) rfl ?_
    exact ⟨q47_,q18_⟩
def spec_l5Banks.f (a0:ByteArray):Option (Int):=if ((a0.size:Int) % 256) = 0 then ((spec_l1In.f (wrap64 ((a0.size:Int) / 256)) 2 16).bind fun t263 => (if t263 = true then (some (wrap64 ((a0.size:Int) / 256))) else (some 0))) else (some 0)
theorem spec_l5Banks.calls (a0:ByteArray) (r:Int) (w:World) (h:spec_l5Banks.f a0 = some r) :
  Calls Tryz.prog 76 #[.string a0] w fun e w' => e = .returned (.int .i64 r) ∧ Drawn0 w w':=by
 have H:(if ((a0.size:Int) % 256) = 0 then ((spec_l1In.f (wrap64 ((a0.size:Int) / 256)) 2 16).bind fun t263 => (if t263 = true then (some (wrap64 ((a0.size:Int) / 256))) else (some 0))) else (some 0)) = some r:=h
 clear h
 by_cases c2:((a0.size:Int) % 256) = 0
 ·rw [if_pos c2] at H
  have c2b0:(((a0.size:Int) % 256) == 0) = true:=beq_iff_eq.mpr c2
  have c2b1:(((a0.size:Int) % 256) != 0) = false:=bne_eq_false_iff_eq.mpr c2
  clear c2
  replace H:=Option.bind_eq_some_iff.mp H
  obtain ⟨t263,A30,H⟩:=H
  have A3:=Aside0.mk A30
  clear A30
  by_cases c4:t263 = true
  ·subst c4
   replace H:(some (wrap64 ((a0.size:Int) / 256))) = some r:=by rw [if_pos rfl] at H;exact H
   obtain rfl:=Option.some.inj H
   go_enter Tryz.func76,Tryz.ntmps76
   go_wp2_with (first | (go_at_call 51;(with_reducible refine (spec_l1In.calls (wrap64 ((a0.size:Int) / 256)) 2 16 true _ A3.out).mono ?_);rintro e w' ⟨rfl,⟨nd,rfl⟩⟩))
   go_ret
   exact ⟨q58_,q81_⟩
  replace c4:=Bool.eq_false_iff.mpr c4
  subst c4
  replace H:(some 0) = some r:=by rw [if_neg (show ¬ (false = true) by decide)] at H;exact H
  obtain rfl:=Option.some.inj H
  go_enter Tryz.func76,Tryz.ntmps76
  go_wp2_with (first | (go_at_call 51;(with_reducible refine (spec_l1In.calls (wrap64 ((a0.size:Int) / 256)) 2 16 false _ A3.out).mono ?_);rintro e w' ⟨rfl,⟨nd,rfl⟩⟩))
  go_ret
  exact ⟨q58_,q81_⟩
 rw [if_neg c2] at H
 have c2b0:(((a0.size:Int) % 256) == 0) = false:=beq_eq_false_iff_ne.mpr c2
 have c2b1:(((a0.size:Int) % 256) != 0) = true:=bne_iff_ne.mpr c2
 obtain rfl:=Option.some.inj H
 go_enter Tryz.func76,Tryz.ntmps76
 go_wp2
 go_ret
 exact ⟨q58_,q81_⟩
def spec_SignedOf.f (a0:Int):Option (Int):=(spec_l1In.f a0 0 255).bind fun t264 => (if t264 = true then (if a0 > 127 then (some (wrap64 (a0 - 256))) else (some a0)) else (some 0))
theorem spec_SignedOf.calls (a0:Int) (r:Int) (w:World) (h:spec_SignedOf.f a0 = some r) :
  Calls Tryz.prog 72 #[.int .i64 a0] w fun e w' => e = .returned (.int .i64 r) ∧ Drawn0 w w':=by
 have H:((spec_l1In.f a0 0 255).bind fun t264 => (if t264 = true then (if a0 > 127 then (some (wrap64 (a0 - 256))) else (some a0)) else (some 0))) = some r:=h
 clear h
 replace H:=Option.bind_eq_some_iff.mp H
 obtain ⟨t264,A20,H⟩:=H
 have A2:=Aside0.mk A20
 clear A20
 by_cases c3:t264 = true
 ·subst c3
  replace H:(if a0 > 127 then (some (wrap64 (a0 - 256))) else (some a0)) = some r:=by rw [if_pos rfl] at H;exact H
  by_cases c4:a0 > 127
  ·rw [if_pos c4] at H
   have c4b0:decide (127 < a0) = true:=decide_eq_true c4
   clear c4
   obtain rfl:=Option.some.inj H
   go_enter Tryz.func72,Tryz.ntmps72
   go_wp2_with (first | ((with_reducible refine gate_callee (f:=51) rfl ?_);refine goesL_ (some 4) rfl rfl Tryz.func51 (by kernel_rfl) rfl #[.int .i64 a0,.int .i64 0,.int .i64 255] rfl q40_ ?_;(with_reducible refine (spec_l1In.calls a0 0 255 true _ A2.out).mono ?_);rintro e w' ⟨rfl,⟨nd,rfl⟩⟩;refine ⟨_,rfl,?_⟩))
   go_ret
   exact ⟨q58_,q81_⟩
  rw [if_neg c4] at H
  have c4b0:decide (127 < a0) = false:=decide_eq_false c4
  clear c4
  obtain rfl:=Option.some.inj H
  go_enter Tryz.func72,Tryz.ntmps72
  go_wp2_with (first | ((with_reducible refine gate_callee (f:=51) rfl ?_);refine goesL_ (some 4) rfl rfl Tryz.func51 (by kernel_rfl) rfl #[.int .i64 a0,.int .i64 0,.int .i64 255] rfl q40_ ?_;(with_reducible refine (spec_l1In.calls a0 0 255 true _ A2.out).mono ?_);rintro e w' ⟨rfl,⟨nd,rfl⟩⟩;refine ⟨_,rfl,?_⟩))
  go_ret
  exact ⟨q58_,q81_⟩
 replace c3:=Bool.eq_false_iff.mpr c3
 subst c3
 replace H:(some 0) = some r:=by rw [if_neg (show ¬ (false = true) by decide)] at H;exact H
 obtain rfl:=Option.some.inj H
 go_enter Tryz.func72,Tryz.ntmps72
 go_wp2_with (first | ((with_reducible refine gate_callee (f:=51) rfl ?_);refine goesL_ (some 4) rfl rfl Tryz.func51 (by kernel_rfl) rfl #[.int .i64 a0,.int .i64 0,.int .i64 255] rfl q40_ ?_;(with_reducible refine (spec_l1In.calls a0 0 255 false _ A2.out).mono ?_);rintro e w' ⟨rfl,⟨nd,rfl⟩⟩;refine ⟨_,rfl,?_⟩))
 go_ret
 exact ⟨q58_,q81_⟩
end Go.Proofs.YtodlnnoekccmmaaGreatDoor.QFnExactMarksOf
