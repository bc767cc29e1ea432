/- The machine's side of a law, written by a program of this session for this claim. -/
import Derived.Test.YtodlnnoekccmmaaGreatDoorYQq
import Derived.Test.YtodlnnoekccmmaaGreatDoorYQFnReadInsx0
import Derived.Test.YtodlnnoekccmmaaGreatDoorYQFnReadInsx12
import Derived.Test.YtodlnnoekccmmaaGreatDoorYQFnReadInsx13
namespace Go.Proofs.YtodlnnoekccmmaaGreatDoor.QFnReadIns
open Go.Proofs.YtodlnnoekccmmaaGreatDoor.Qq
open Go.RowKit Go.Proofs.YtodlnnoekccmmaaGreatDoor.LibX Go.Proofs.YtodlnnoekccmmaaGreatDoor.LibE Go.Proofs.YtodlnnoekccmmaaGreatDoorW.PrintWords Go.Proofs.YtodlnnoekccmmaaGreatDoorW.PrintLast Go.Proofs.YtodlnnoekccmmaaGreatDoorW.PrintMore
attribute [local go_sem] max2_int min2_int max_two min_two max_three min_three max_four min_four   -- for this text's walks alone
set_option maxHeartbeats 8000000
set_option maxRecDepth 100000
set_option linter.unusedVariables false
set_option linter.unusedSimpArgs false
mutual
def spec_ReadIns.j0 : Nat → ByteArray → Int → Int → Bool → Option (Int × Bool × Int × Int)
 | 0, _, _, _, _ => none
 | k + 1, x0, x1, x6, x18 => if x18 = true then (some (0, false, 0, 0)) else ((spec_l3At.f x0 x1).bind fun t526 => (if t526 = 203 then (if x6 < 2 then (some (0, false, 0, 0)) else ((spec_l3At.f x0 (wrap64 (x1 + 1))).bind fun t528 => (some (t528, true, 0, 2)))) else ((spec_l3Length.f k t526 false).bind fun t529 => (if t529 = 0 then (spec_ReadIns.j1 k x0 x1 t529 true t526 false 0) else (spec_ReadIns.j1 k x0 x1 t529 (decide (t529 > x6)) t526 false 0)))))
def spec_ReadIns.j1 : Nat → ByteArray → Int → Int → Bool → Int → Bool → Int → Option (Int × Bool × Int × Int)
 | 0, _, _, _, _, _, _, _ => none
 | k + 1, x0, x1, x8, x44, x528000, x528001, x528002 => if x44 = true then (some (0, false, 0, 0)) else (if x8 > 1 then ((spec_l3At.f x0 (wrap64 (x1 + 1))).bind fun t530 => (spec_ReadIns.j2 k x0 x1 x8 x528000 x528001 t530)) else (spec_ReadIns.j2 k x0 x1 x8 x528000 x528001 x528002))
def spec_ReadIns.j2 : Nat → ByteArray → Int → Int → Int → Bool → Int → Option (Int × Bool × Int × Int)
 | 0, _, _, _, _, _, _ => none
 | k + 1, x0, x1, x8, x528000, x528001, x528002 => if x8 > 2 then ((spec_l3At.f x0 (wrap64 (x1 + 2))).bind fun t531 => (some (x528000, x528001, wrap64 (x528002 + (wrap64 (256 * t531))), x8))) else (some (x528000, x528001, x528002, x8))
end
def spec_ReadIns.f (k : Nat) (a0 : ByteArray) (a1 : Int) : Option (Int × Bool × Int × Int) := if a1 < 0 then (spec_ReadIns.j0 k a0 a1 (wrap64 ((a0.size : Int) - a1)) true) else (spec_ReadIns.j0 k a0 a1 (wrap64 ((a0.size : Int) - a1)) (decide ((wrap64 ((a0.size : Int) - a1)) < 1)))
theorem spec_ReadIns.mono_l : ∀ k, (∀ y0 y1 y2 y3, LeO (spec_ReadIns.j0 k y0 y1 y2 y3) (spec_ReadIns.j0 (k + 1) y0 y1 y2 y3)) ∧ (∀ y0 y1 y2 y3 y4 y5 y6, LeO (spec_ReadIns.j1 k y0 y1 y2 y3 y4 y5 y6) (spec_ReadIns.j1 (k + 1) y0 y1 y2 y3 y4 y5 y6)) ∧ (∀ y0 y1 y2 y3 y4 y5, LeO (spec_ReadIns.j2 k y0 y1 y2 y3 y4 y5) (spec_ReadIns.j2 (k + 1) y0 y1 y2 y3 y4 y5))
 | 0 => ⟨fun _ _ _ _ r h => by simp [spec_ReadIns.j0] at h, fun _ _ _ _ _ _ _ r h => by simp [spec_ReadIns.j1] at h, fun _ _ _ _ _ _ r h => by simp [spec_ReadIns.j2] at h⟩
 | k + 1 => by
  obtain ⟨ih0, ih1, ih2⟩ := spec_ReadIns.mono_l k
  refine ⟨?_, ?_, ?_⟩
  ·intro y0 y1 y2 y3
   unfold spec_ReadIns.j0
   repeat' first
   | (with_reducible first | exact ih0 _ _ _ _ | exact ih1 _ _ _ _ _ _ _ | exact ih2 _ _ _ _ _ _ | exact spec_l3Length.mono _ _ _ | exact LeO.refl _ | exact LeO.none _ | refine LeO.ite ?_ ?_ | refine LeO.bind ?_ (fun _ => ?_))
   | exact ih0 _ _ _ _
   | exact ih1 _ _ _ _ _ _ _
   | exact ih2 _ _ _ _ _ _
   | exact spec_l3Length.mono _ _ _
   | exact LeO.none _
   | refine LeO.ite ?_ ?_
   | refine LeO.bind ?_ (fun _ => ?_)
  ·intro y0 y1 y2 y3 y4 y5 y6
   unfold spec_ReadIns.j1
   repeat' first
   | (with_reducible first | exact ih0 _ _ _ _ | exact ih1 _ _ _ _ _ _ _ | exact ih2 _ _ _ _ _ _ | exact spec_l3Length.mono _ _ _ | exact LeO.refl _ | exact LeO.none _ | refine LeO.ite ?_ ?_ | refine LeO.bind ?_ (fun _ => ?_))
   | exact ih0 _ _ _ _
   | exact ih1 _ _ _ _ _ _ _
   | exact ih2 _ _ _ _ _ _
   | exact spec_l3Length.mono _ _ _
   | exact LeO.none _
   | refine LeO.ite ?_ ?_
   | refine LeO.bind ?_ (fun _ => ?_)
  ·intro y0 y1 y2 y3 y4 y5
   unfold spec_ReadIns.j2
   repeat' first
   | (with_reducible first | exact ih0 _ _ _ _ | exact ih1 _ _ _ _ _ _ _ | exact ih2 _ _ _ _ _ _ | exact spec_l3Length.mono _ _ _ | exact LeO.refl _ | exact LeO.none _ | refine LeO.ite ?_ ?_ | refine LeO.bind ?_ (fun _ => ?_))
   | exact ih0 _ _ _ _
   | exact ih1 _ _ _ _ _ _ _
   | exact ih2 _ _ _ _ _ _
   | exact spec_l3Length.mono _ _ _
   | exact LeO.none _
   | refine LeO.ite ?_ ?_
   | refine LeO.bind ?_ (fun _ => ?_)
theorem spec_ReadIns.mono : ∀ a0 a1 k, LeO (spec_ReadIns.f k a0 a1) (spec_ReadIns.f (k + 1) a0 a1) := by
 intro a0 a1 k
 obtain ⟨ih0, ih1, ih2⟩ := spec_ReadIns.mono_l k
 unfold spec_ReadIns.f
 repeat' first
   | (with_reducible first | exact ih0 _ _ _ _ | exact ih1 _ _ _ _ _ _ _ | exact ih2 _ _ _ _ _ _ | exact spec_l3Length.mono _ _ _ | exact LeO.refl _ | exact LeO.none _ | refine LeO.ite ?_ ?_ | refine LeO.bind ?_ (fun _ => ?_))
   | exact ih0 _ _ _ _
   | exact ih1 _ _ _ _ _ _ _
   | exact ih2 _ _ _ _ _ _
   | exact spec_l3Length.mono _ _ _
   | exact LeO.none _
   | refine LeO.ite ?_ ?_
   | refine LeO.bind ?_ (fun _ => ?_)
def spec_ReadIns.T15 : Bool × List (List Nat × List Nat) := (true, [([], []), ([0], [0]), ([], []), ([], []), ([3], [3]), ([2, 4], [2, 4]), ([5], [5]), ([1, 6], [1, 6]), ([0, 1, 2, 3, 4, 5, 6, 7], []), ([8, 7, 5, 0, 1, 2, 3, 4, 5, 6, 7], [7, 8])])
def spec_ReadIns.B15 : List Nat := [0, 1, 0, 0, 8, 28, 60, 127, 255, 511]
theorem spec_ReadIns.tab15 : rtab .any (opsOf Tryz.f24 15) = spec_ReadIns.T15 := by kernel_rfl
theorem spec_ReadIns.bits15 : waitsOk spec_ReadIns.T15.2 spec_ReadIns.B15 = true := by kernel_rfl
theorem spec_ReadIns.calls (k : Nat) (a0 : ByteArray) (a1 : Int) (r1 : Int) (r2 : Bool) (r3 : Int) (r4 : Int) (w : World) (h : spec_ReadIns.f k a0 a1 = some (r1, r2, r3, r4)) :
  Calls Tryz.prog 24 #[.string a0, .int .i64 a1] w fun e w' => e = .returned (.tuple #[.agg #[.int .i64 r1, .bool r2, .int .i64 r3], .int .i64 r4]) ∧ Below w.heap.size w w' := by
 have hu30 := Tryz.underlying30
 have HB := Aside0.mk (Below.refl w.heap.size w)
 have H : (if a1 < 0 then (spec_ReadIns.j0 k a0 a1 (wrap64 ((a0.size : Int) - a1)) true) else (spec_ReadIns.j0 k a0 a1 (wrap64 ((a0.size : Int) - a1)) (decide ((wrap64 ((a0.size : Int) - a1)) < 1)))) = some (r1, r2, r3, r4) := h
 clear h
 have HC3 := Aside0.mk H
 clear H
 go_enter Tryz.func24, Tryz.ntmps24
 go_upto_region 2 with (first | ((with_reducible refine gate_dst (N := 4) rfl ?_); refine box_event ?hg (N := 4) ?hd (cs := #[.int .i64 0, .bool false, .int .i64 0]) (t := 30) ?hr ?_; (case hd => rfl); (case hg => rfl); (case hr => exact q111_); intro gb525 hg w4 hbox hb; have n0_ := Aside0.mk (below_step q52_ hb); have n1_ := Aside0.mk (hbox); have n2_ := Aside0.mk ((q36_ : w.heap.size ≤ gb525)); have n3_ := Aside0.mk ((q36_ : w.heap.size ≤ gb525)); clear HB; have HB := n0_; have BK525 := n1_; have GW525 := n2_; have GE525 := n3_; clear n0_ n1_ n2_ n3_; clear hb hbox hg))
 (try simp only [Act.put, List.setIfInBounds_toArray, List.set_cons_zero, List.set_cons_succ])
 go_cut [18] (fun v18 wc => ∃ (kq : Nat) (x18_2 : Bool), v18 = .bool x18_2 ∧ Aside0 (spec_ReadIns.j0 kq a0 a1 (wrap64 ((a0.size : Int) - a1)) x18_2 = some (r1, r2, r3, r4)) ∧ Aside0 (kq ≤ k) ∧ Aside0 (wc.heap[gb525]? = some (.cells #[.int .i64 0, .bool false, .int .i64 0] 30 (0, 0))) ∧ Aside0 (Below w.heap.size w wc))
 case first =>
  have H := HC3.out
  clear HC3
  by_cases c5 : a1 < 0
  ·rw [if_pos c5] at H
   have c5b0 : decide (a1 < 0) = true := decide_eq_true c5
   clear c5
   (first | rw [c5b0] | (simp only [i64_w, i32_w]; rw [c5b0]) | skip)
   have H' := Aside0.mk H
   clear H
   go_wp2
   go_meet
   case rel => exact ⟨_, (true), q68_, H', ⟨q94_⟩, ⟨q63_⟩, ⟨q42_⟩⟩
  ·rw [if_neg c5] at H
   have c5b0 : decide (a1 < 0) = false := decide_eq_false c5
   clear c5
   (first | rw [c5b0] | (simp only [i64_w, i32_w]; rw [c5b0]) | skip)
   have H' := Aside0.mk H
   clear H
   go_wp2
   go_meet
   case rel => exact ⟨_, (decide ((wrap64 ((a0.size : Int) - a1)) < 1)), q68_, H', ⟨q94_⟩, ⟨q63_⟩, ⟨q42_⟩⟩
 case rest =>
  clear HC3
  try clear c2
  try clear p2
  try clear c5
  try clear c5b0
  obtain ⟨kq, x18_2, rfl, HA, HJ2, BK525, HB⟩ := hcut
  cases kq with
  | zero => exact absurd HA.out (by simp [spec_ReadIns.j0])
  | succ kj2 =>
   have H := HA.out
   clear HA
   simp only [spec_ReadIns.j0] at H
   by_cases c6 : x18_2 = true
   ·subst c6
    replace H : (some (0, false, 0, 0)) = some (r1, r2, r3, r4) := by rw [if_pos rfl] at H; exact H
    simp only [Option.some.injEq, Prod.mk.injEq] at H
    obtain ⟨rfl, rfl, rfl, rfl⟩ := H
    have hcz7_0 : wc.cell? ⟨gb525, 0, none⟩ = some (.int .i64 0) := bz_ BK525 0
    have hcz7_1 : wc.cell? ⟨gb525, 1, none⟩ = some (.bool false) := bz_ BK525 1
    have hcz7_2 : wc.cell? ⟨gb525, 2, none⟩ = some (.int .i64 0) := bz_ BK525 2
    have hfz7_0 := blk_frozen BK525.out 0
    have hfz7_1 := blk_frozen BK525.out 1
    have hfz7_2 := blk_frozen BK525.out 2
    go_wp2
    refine bodyPost_ret (results_ct rfl _ _ gb525 30 #[.int .i64 0, .bool false, .int .i64 0] (0, 0) _ rfl q2_ Tryz.underlying30 rfl (by kernel_rfl)) rfl ?_
    exact ⟨q54_, q42_⟩
   ·replace c6 := Bool.eq_false_iff.mpr c6
    subst c6
    replace H : ((spec_l3At.f a0 a1).bind fun t526 => (if t526 = 203 then (if (wrap64 ((a0.size : Int) - a1)) < 2 then (some (0, false, 0, 0)) else ((spec_l3At.f a0 (wrap64 (a1 + 1))).bind fun t528 => (some (t528, true, 0, 2)))) else ((spec_l3Length.f kj2 t526 false).bind fun t529 => (if t529 = 0 then (spec_ReadIns.j1 kj2 a0 a1 t529 true t526 false 0) else (spec_ReadIns.j1 kj2 a0 a1 t529 (decide (t529 > (wrap64 ((a0.size : Int) - a1)))) t526 false 0))))) = some (r1, r2, r3, r4) := by rw [if_neg (show ¬ (false = true) by decide)] at H; exact H
    replace H := Option.bind_eq_some_iff.mp H
    obtain ⟨t526, A80, H⟩ := H
    have A8 := Aside0.mk A80
    clear A80
    by_cases c9 : t526 = 203
    ·rw [if_pos c9] at H
     have c9b0 : (t526 == 203) = true := beq_iff_eq.mpr c9
     have c9b1 : (t526 != 203) = false := bne_eq_false_iff_eq.mpr c9
     clear c9
     by_cases c10 : (wrap64 ((a0.size : Int) - a1)) < 2
     ·rw [if_pos c10] at H
      have c10b0 : decide ((wrap64 ((a0.size : Int) - a1)) < 2) = true := decide_eq_true c10
      clear c10
      simp only [Option.some.injEq, Prod.mk.injEq] at H
      obtain ⟨rfl, rfl, rfl, rfl⟩ := H
      go_wp2_with (first | ((with_reducible refine gate_callee (f := 63) rfl ?_); refine goesL_ (some 22) rfl rfl Tryz.func63 (by kernel_rfl) rfl #[.string a0, .int .i64 a1] rfl q51_ ?_; (with_reducible refine (spec_l3At.calls a0 a1 t526 _ A8.out).mono ?_); rintro e w' ⟨rfl, ⟨nd, rfl⟩⟩; refine ⟨_, rfl, ?_⟩; (try (rw [drewN_self wc]; generalize hq_ : World.drewN wc _ = wc; have n0_ : Aside0 (wc.heap[gb525]? = some (.cells #[.int .i64 0, .bool false, .int .i64 0] 30 (0, 0))) := ⟨q50_⟩; have n1_ : Aside0 (Below w.heap.size w wc) := ⟨q30_⟩; clear BK525 HB hq_; have BK525 := n0_; have HB := n1_; clear n0_ n1_))) | ((with_reducible refine gate_dst (N := 7) rfl ?_); refine box_event ?hg (N := 7) ?hd (cs := #[.int .i64 0, .bool false, .int .i64 0]) (t := 30) ?hr ?_; (case hd => rfl); (case hg => rfl); (case hr => exact q111_); intro gb527 hg w11 hbox hb; have n0_ := Aside0.mk (blk_below (g := gb525) (o := .cells #[.int .i64 0, .bool false, .int .i64 0] 30 (0, 0)) q63_ hb); have n1_ := Aside0.mk (below_step q42_ hb); have n2_ := Aside0.mk (hbox); have n3_ := Aside0.mk ((q24_ : w.heap.size ≤ gb527)); have n4_ := Aside0.mk ((q24_ : w.heap.size ≤ gb527)); have n5_ := Aside0.mk ((q11_ : gb525 ≠ gb527)); have n6_ := Aside0.mk ((q12_ : gb527 ≠ gb525)); clear BK525; clear HB; have BK525 := n0_; have HB := n1_; have BK527 := n2_; have GW527 := n3_; have GE527 := n4_; have NB525_527 := n5_; have NB527_525 := n6_; clear n0_ n1_ n2_ n3_ n4_ n5_ n6_; clear hb hbox hg; have hnb12 := NB527_525.out; have hnc12 := NB525_527.out; have hcz13_0 : w11.cell? ⟨gb527, 0, none⟩ = some (.int .i64 0) := (blk_cell BK527.out 0).trans rfl; have hcz13_1 : w11.cell? ⟨gb527, 1, none⟩ = some (.bool false) := (blk_cell BK527.out 1).trans rfl; have hcz13_2 : w11.cell? ⟨gb527, 2, none⟩ = some (.int .i64 0) := (blk_cell BK527.out 2).trans rfl; have hfz13_0 := blk_frozen BK527.out 0; have hfz13_1 := blk_frozen BK527.out 1; have hfz13_2 := blk_frozen BK527.out 2; have hcz14_0 : w11.cell? ⟨gb525, 0, none⟩ = some (.int .i64 0) := (blk_cell BK525.out 0).trans rfl; have hcz14_1 : w11.cell? ⟨gb525, 1, none⟩ = some (.bool false) := (blk_cell BK525.out 1).trans rfl; have hcz14_2 : w11.cell? ⟨gb525, 2, none⟩ = some (.int .i64 0) := (blk_cell BK525.out 2).trans rfl; have hfz14_0 := blk_frozen BK525.out 0; have hfz14_1 := blk_frozen BK525.out 1; have hfz14_2 := blk_frozen BK525.out 2))
      refine bodyPost_ret (results_ct rfl _ _ gb525 30 #[.int .i64 0, .bool false, .int .i64 0] (0, 0) _ rfl (by (with_reducible repeat (first | refine blk_drewN ?_ _ | refine blk_drew ?_ | refine blk_alloc ?_ _)); refine blk_put (cs := #[.int .i64 0, .bool false, .int .i64 0]) ?_ 2 _ rfl; (with_reducible repeat (first | refine blk_drewN ?_ _ | refine blk_drew ?_ | refine blk_alloc ?_ _)); refine blk_put (cs := #[.int .i64 0, .bool false, .int .i64 0]) ?_ 1 _ rfl; (with_reducible repeat (first | refine blk_drewN ?_ _ | refine blk_drew ?_ | refine blk_alloc ?_ _)); refine blk_put (cs := #[.int .i64 0, .bool false, .int .i64 0]) ?_ 0 _ rfl; (with_reducible repeat (first | refine blk_drewN ?_ _ | refine blk_drew ?_ | refine blk_alloc ?_ _)); refine blk_far ?_ NB525_527.out _; (with_reducible repeat (first | refine blk_drewN ?_ _ | refine blk_drew ?_ | refine blk_alloc ?_ _)); refine blk_far ?_ NB525_527.out _; (with_reducible repeat (first | refine blk_drewN ?_ _ | refine blk_drew ?_ | refine blk_alloc ?_ _)); refine blk_far ?_ NB525_527.out _; (with_reducible repeat (first | refine blk_drewN ?_ _ | refine blk_drew ?_ | refine blk_alloc ?_ _)); exact BK525.out) Tryz.underlying30 rfl (by kernel_rfl)) rfl ?_
      exact ⟨q54_, q27_⟩
     ·rw [if_neg c10] at H
      have c10b0 : decide ((wrap64 ((a0.size : Int) - a1)) < 2) = false := decide_eq_false c10
      clear c10
      replace H := Option.bind_eq_some_iff.mp H
      obtain ⟨t528, A150, H⟩ := H
      have A15 := Aside0.mk A150
      clear A150
      simp only [Option.some.injEq, Prod.mk.injEq] at H
      obtain ⟨rfl, rfl, rfl, rfl⟩ := H
      go_wp2_with (first | ((with_reducible refine gate_callee (f := 63) rfl ?_); refine goesL_ (some 22) rfl rfl Tryz.func63 (by kernel_rfl) rfl #[.string a0, .int .i64 a1] rfl q51_ ?_; (with_reducible refine (spec_l3At.calls a0 a1 t526 _ A8.out).mono ?_); rintro e w' ⟨rfl, ⟨nd, rfl⟩⟩; refine ⟨_, rfl, ?_⟩; (try (rw [drewN_self wc]; generalize hq_ : World.drewN wc _ = wc; have n0_ : Aside0 (wc.heap[gb525]? = some (.cells #[.int .i64 0, .bool false, .int .i64 0] 30 (0, 0))) := ⟨q50_⟩; have n1_ : Aside0 (Below w.heap.size w wc) := ⟨q30_⟩; clear BK525 HB hq_; have BK525 := n0_; have HB := n1_; clear n0_ n1_))) | ((with_reducible refine gate_dst (N := 7) rfl ?_); refine box_event ?hg (N := 7) ?hd (cs := #[.int .i64 0, .bool false, .int .i64 0]) (t := 30) ?hr ?_; (case hd => rfl); (case hg => rfl); (case hr => exact q111_); intro gb527 hg w16 hbox hb; have n0_ := Aside0.mk (blk_below (g := gb525) (o := .cells #[.int .i64 0, .bool false, .int .i64 0] 30 (0, 0)) q63_ hb); have n1_ := Aside0.mk (below_step q42_ hb); have n2_ := Aside0.mk (hbox); have n3_ := Aside0.mk ((q24_ : w.heap.size ≤ gb527)); have n4_ := Aside0.mk ((q24_ : w.heap.size ≤ gb527)); have n5_ := Aside0.mk ((q11_ : gb525 ≠ gb527)); have n6_ := Aside0.mk ((q12_ : gb527 ≠ gb525)); clear BK525; clear HB; have BK525 := n0_; have HB := n1_; have BK527 := n2_; have GW527 := n3_; have GE527 := n4_; have NB525_527 := n5_; have NB527_525 := n6_; clear n0_ n1_ n2_ n3_ n4_ n5_ n6_; clear hb hbox hg; have hnb17 := NB527_525.out; have hnc17 := NB525_527.out; have hcz18_0 : w16.cell? ⟨gb527, 0, none⟩ = some (.int .i64 0) := (blk_cell BK527.out 0).trans rfl; have hcz18_1 : w16.cell? ⟨gb527, 1, none⟩ = some (.bool false) := (blk_cell BK527.out 1).trans rfl; have hcz18_2 : w16.cell? ⟨gb527, 2, none⟩ = some (.int .i64 0) := (blk_cell BK527.out 2).trans rfl; have hfz18_0 := blk_frozen BK527.out 0; have hfz18_1 := blk_frozen BK527.out 1; have hfz18_2 := blk_frozen BK527.out 2) | ((with_reducible refine gate_callee (f := 63) rfl ?_); refine goesL_ (some 33) rfl rfl Tryz.func63 (by kernel_rfl) rfl #[.string a0, .int .i64 (wrap64 (a1 + 1))] rfl q14_ ?_; (with_reducible refine (spec_l3At.calls a0 (wrap64 (a1 + 1)) t528 _ A15.out).mono ?_); rintro e w' ⟨rfl, ⟨nd, rfl⟩⟩; refine ⟨_, rfl, ?_⟩; have hcz19_0 : w16.cell? ⟨gb525, 0, none⟩ = some (.int .i64 0) := (blk_cell BK525.out 0).trans rfl; have hcz19_1 : w16.cell? ⟨gb525, 1, none⟩ = some (.bool false) := (blk_cell BK525.out 1).trans rfl; have hcz19_2 : w16.cell? ⟨gb525, 2, none⟩ = some (.int .i64 0) := (blk_cell BK525.out 2).trans rfl; have hfz19_0 := blk_frozen BK525.out 0; have hfz19_1 := blk_frozen BK525.out 1; have hfz19_2 := blk_frozen BK525.out 2))
      refine bodyPost_ret (results_ct rfl _ _ gb525 30 #[.int .i64 t528, .bool true, .int .i64 0] (0, 0) _ rfl (by (with_reducible repeat (first | refine blk_drewN ?_ _ | refine blk_drew ?_ | refine blk_alloc ?_ _)); refine blk_put (cs := #[.int .i64 t528, .bool true, .int .i64 0]) ?_ 2 _ rfl; (with_reducible repeat (first | refine blk_drewN ?_ _ | refine blk_drew ?_ | refine blk_alloc ?_ _)); refine blk_put (cs := #[.int .i64 t528, .bool false, .int .i64 0]) ?_ 1 _ rfl; (with_reducible repeat (first | refine blk_drewN ?_ _ | refine blk_drew ?_ | refine blk_alloc ?_ _)); refine blk_put (cs := #[.int .i64 0, .bool false, .int .i64 0]) ?_ 0 _ rfl; (with_reducible repeat (first | refine blk_drewN ?_ _ | refine blk_drew ?_ | refine blk_alloc ?_ _)); refine blk_far ?_ NB525_527.out _; (with_reducible repeat (first | refine blk_drewN ?_ _ | refine blk_drew ?_ | refine blk_alloc ?_ _)); refine blk_far ?_ NB525_527.out _; (with_reducible repeat (first | refine blk_drewN ?_ _ | refine blk_drew ?_ | refine blk_alloc ?_ _)); refine blk_far ?_ NB525_527.out _; (with_reducible repeat (first | refine blk_drewN ?_ _ | refine blk_drew ?_ | refine blk_alloc ?_ _)); exact BK525.out) Tryz.underlying30 rfl (by kernel_rfl)) rfl ?_
      exact ⟨q54_, q27_⟩
    ·rw [if_neg c9] at H
     have c9b0 : (t526 == 203) = false := beq_eq_false_iff_ne.mpr c9
     have c9b1 : (t526 != 203) = true := bne_iff_ne.mpr c9
     replace H := Option.bind_eq_some_iff.mp H
     obtain ⟨t529, A200, H⟩ := H
     have A20 := Aside0.mk A200
     clear A200
     have HC21 := Aside0.mk H
     clear H
     go_upto_region 10 with (first | ((with_reducible refine gate_callee (f := 63) rfl ?_); refine goesL_ (some 22) rfl rfl Tryz.func63 (by kernel_rfl) rfl #[.string a0, .int .i64 a1] rfl q51_ ?_; (with_reducible refine (spec_l3At.calls a0 a1 t526 _ A8.out).mono ?_); rintro e w' ⟨rfl, ⟨nd, rfl⟩⟩; refine ⟨_, rfl, ?_⟩; (try (rw [drewN_self wc]; generalize hq_ : World.drewN wc _ = wc; have n0_ : Aside0 (wc.heap[gb525]? = some (.cells #[.int .i64 0, .bool false, .int .i64 0] 30 (0, 0))) := ⟨q50_⟩; have n1_ : Aside0 (Below w.heap.size w wc) := ⟨q30_⟩; clear BK525 HB hq_; have BK525 := n0_; have HB := n1_; clear n0_ n1_))) | ((with_reducible refine gate_dst (N := 7) rfl ?_); refine box_event ?hg (N := 7) ?hd (cs := #[.int .i64 0, .bool false, .int .i64 0]) (t := 30) ?hr ?_; (case hd => rfl); (case hg => rfl); (case hr => exact q111_); intro gb527 hg w22 hbox hb; have n0_ := Aside0.mk (blk_below (g := gb525) (o := .cells #[.int .i64 0, .bool false, .int .i64 0] 30 (0, 0)) q63_ hb); have n1_ := Aside0.mk (below_step q42_ hb); have n2_ := Aside0.mk (hbox); have n3_ := Aside0.mk ((q24_ : w.heap.size ≤ gb527)); have n4_ := Aside0.mk ((q24_ : w.heap.size ≤ gb527)); have n5_ := Aside0.mk ((q11_ : gb525 ≠ gb527)); have n6_ := Aside0.mk ((q12_ : gb527 ≠ gb525)); clear BK525; clear HB; have BK525 := n0_; have HB := n1_; have BK527 := n2_; have GW527 := n3_; have GE527 := n4_; have NB525_527 := n5_; have NB527_525 := n6_; clear n0_ n1_ n2_ n3_ n4_ n5_ n6_; clear hb hbox hg; have hnb23 := NB527_525.out; have hnc23 := NB525_527.out; have hcz24_0 : w22.cell? ⟨gb527, 0, none⟩ = some (.int .i64 0) := (blk_cell BK527.out 0).trans rfl; have hcz24_1 : w22.cell? ⟨gb527, 1, none⟩ = some (.bool false) := (blk_cell BK527.out 1).trans rfl; have hcz24_2 : w22.cell? ⟨gb527, 2, none⟩ = some (.int .i64 0) := (blk_cell BK527.out 2).trans rfl; have hfz24_0 := blk_frozen BK527.out 0; have hfz24_1 := blk_frozen BK527.out 1; have hfz24_2 := blk_frozen BK527.out 2) | ((with_reducible refine gate_callee (f := 52) rfl ?_); refine goesL_ (some 37) rfl rfl Tryz.func52 (by kernel_rfl) rfl #[.int .i64 t526, .bool false] rfl q51_ ?_; (with_reducible refine (spec_l3Length.calls kj2 t526 false t529 _ A20.out).mono ?_); rintro e w25 ⟨rfl, hb⟩; refine ⟨_, rfl, ?_⟩; have n0_ := Aside0.mk (blk_below (g := gb525) (o := .cells #[.int .i64 0, .bool false, .int .i64 0] 30 (0, 0)) (by (with_reducible repeat (first | refine blk_drewN ?_ _ | refine blk_drew ?_ | refine blk_alloc ?_ _)); refine blk_far ?_ NB525_527.out _; (with_reducible repeat (first | refine blk_drewN ?_ _ | refine blk_drew ?_ | refine blk_alloc ?_ _)); refine blk_far ?_ NB525_527.out _; (with_reducible repeat (first | refine blk_drewN ?_ _ | refine blk_drew ?_ | refine blk_alloc ?_ _)); refine blk_far ?_ NB525_527.out _; (with_reducible repeat (first | refine blk_drewN ?_ _ | refine blk_drew ?_ | refine blk_alloc ?_ _)); exact BK525.out) hb); have n1_ := Aside0.mk (blk_below (g := gb527) (o := .cells #[.int .i64 t526, .bool false, .int .i64 0] 30 (0, 0)) (by (with_reducible repeat (first | refine blk_drewN ?_ _ | refine blk_drew ?_ | refine blk_alloc ?_ _)); refine blk_put (cs := #[.int .i64 t526, .bool false, .int .i64 0]) ?_ 2 _ rfl; (with_reducible repeat (first | refine blk_drewN ?_ _ | refine blk_drew ?_ | refine blk_alloc ?_ _)); refine blk_put (cs := #[.int .i64 t526, .bool false, .int .i64 0]) ?_ 1 _ rfl; (with_reducible repeat (first | refine blk_drewN ?_ _ | refine blk_drew ?_ | refine blk_alloc ?_ _)); refine blk_put (cs := #[.int .i64 0, .bool false, .int .i64 0]) ?_ 0 _ rfl; (with_reducible repeat (first | refine blk_drewN ?_ _ | refine blk_drew ?_ | refine blk_alloc ?_ _)); exact BK527.out) hb); have n2_ := Aside0.mk (below_step q27_ hb); clear BK525; clear BK527; clear HB; have BK525 := n0_; have BK527 := n1_; have HB := n2_; clear n0_ n1_ n2_; (try clear hb)))
     (try simp only [Act.put, List.setIfInBounds_toArray, List.set_cons_zero, List.set_cons_succ])
     go_cut [44] (fun v44 wc => ∃ (kq : Nat) (x44_20 : Bool), v44 = .bool x44_20 ∧ Aside0 (spec_ReadIns.j1 kq a0 a1 t529 x44_20 t526 false 0 = some (r1, r2, r3, r4)) ∧ Aside0 (kq ≤ kj2) ∧ Aside0 (wc.heap[gb525]? = some (.cells #[.int .i64 0, .bool false, .int .i64 0] 30 (0, 0))) ∧ Aside0 (wc.heap[gb527]? = some (.cells #[.int .i64 t526, .bool false, .int .i64 0] 30 (0, 0))) ∧ Aside0 (Below w.heap.size w wc))
     case first =>
      have H := HC21.out
      clear HC21
      by_cases c26 : t529 = 0
      ·rw [if_pos c26] at H
       have c26b0 : (t529 == 0) = true := beq_iff_eq.mpr c26
       have c26b1 : (t529 != 0) = false := bne_eq_false_iff_eq.mpr c26
       clear c26
       (first | rw [c26b0] | (simp only [i64_w, i32_w]; rw [c26b0]) | skip)
       have H' := Aside0.mk H
       clear H
       go_wp2
       go_meet
       case rel => exact ⟨_, (true), q68_, H', ⟨by have := HJ2.out; first | omega | exact Nat.le_refl _⟩, ⟨q63_⟩, ⟨q64_⟩, ⟨q27_⟩⟩
      ·rw [if_neg c26] at H
       have c26b0 : (t529 == 0) = false := beq_eq_false_iff_ne.mpr c26
       have c26b1 : (t529 != 0) = true := bne_iff_ne.mpr c26
       (first | rw [c26b0] | (simp only [i64_w, i32_w]; rw [c26b0]) | skip)
       have H' := Aside0.mk H
       clear H
       go_wp2
       go_meet
       case rel => exact ⟨_, (decide (t529 > (wrap64 ((a0.size : Int) - a1)))), q68_, H', ⟨by have := HJ2.out; first | omega | exact Nat.le_refl _⟩, ⟨q63_⟩, ⟨q64_⟩, ⟨q27_⟩⟩
     case rest =>
      clear HC21
      try clear c1
      try clear c2
      try clear p2 p2
      try clear c5
      try clear c5b0
      try clear c6
      try clear p6
      try clear c9
      try clear c9b0
      try clear c9b1
      try clear c10
      try clear c10b0
      try clear c12
      try clear c17
      try clear c23
      try clear c24
      try clear c26
      try clear c26b0
      try clear c26b1
      try clear hcz13_0 hcz13_1 hcz13_2
      try clear hcz14_0 hcz14_1 hcz14_2
      try clear hcz18_0 hcz18_1 hcz18_2
      try clear hcz19_0 hcz19_1 hcz19_2
      try clear hcz24_0 hcz24_1 hcz24_2
      try clear hcz7_0 hcz7_1 hcz7_2
      try clear hfz13_0 hfz13_1 hfz13_2
      try clear hfz14_0 hfz14_1 hfz14_2
      try clear hfz18_0 hfz18_1 hfz18_2
      try clear hfz19_0 hfz19_1 hfz19_2
      try clear hfz24_0 hfz24_1 hfz24_2
      try clear hfz7_0 hfz7_1 hfz7_2
      obtain ⟨kq, x44_20, rfl, HA, HJ20, BK525, BK527, HB⟩ := hcut
      cases kq with
      | zero => exact absurd HA.out (by simp [spec_ReadIns.j1])
      | succ kj20 =>
       have H := HA.out
       clear HA
       simp only [spec_ReadIns.j1] at H
       by_cases c27 : x44_20 = true
       ·subst c27
        replace H : (some (0, false, 0, 0)) = some (r1, r2, r3, r4) := by rw [if_pos rfl] at H; exact H
        simp only [Option.some.injEq, Prod.mk.injEq] at H
        obtain ⟨rfl, rfl, rfl, rfl⟩ := H
        have hnb28 := NB525_527.out
        have hnc28 := NB527_525.out
        have hcz29_0 : wc.cell? ⟨gb525, 0, none⟩ = some (.int .i64 0) := bz_ BK525 0
        have hcz29_1 : wc.cell? ⟨gb525, 1, none⟩ = some (.bool false) := bz_ BK525 1
        have hcz29_2 : wc.cell? ⟨gb525, 2, none⟩ = some (.int .i64 0) := bz_ BK525 2
        have hfz29_0 := blk_frozen BK525.out 0
        have hfz29_1 := blk_frozen BK525.out 1
        have hfz29_2 := blk_frozen BK525.out 2
        go_wp2
        refine bodyPost_ret (results_ct rfl _ _ gb525 30 #[.int .i64 0, .bool false, .int .i64 0] (0, 0) _ rfl q2_ Tryz.underlying30 rfl (by kernel_rfl)) rfl ?_
        exact ⟨q54_, q27_⟩
       ·replace c27 := Bool.eq_false_iff.mpr c27
        subst c27
        replace H : (if t529 > 1 then ((spec_l3At.f a0 (wrap64 (a1 + 1))).bind fun t530 => (spec_ReadIns.j2 kj20 a0 a1 t529 t526 false t530)) else (spec_ReadIns.j2 kj20 a0 a1 t529 t526 false 0)) = some (r1, r2, r3, r4) := by rw [if_neg (show ¬ (false = true) by decide)] at H; exact H
        have HC30 := Aside0.mk H
        clear H
        go_upto_if 47 with (fail)
        go_cut [] (fun wc => ∃ (kq : Nat) (x528002_29 : Int), Aside0 (spec_ReadIns.j2 kq a0 a1 t529 t526 false x528002_29 = some (r1, r2, r3, r4)) ∧ Aside0 (kq ≤ kj20) ∧ Aside0 (wc.heap[gb525]? = some (.cells #[.int .i64 0, .bool false, .int .i64 0] 30 (0, 0))) ∧ Aside0 (wc.heap[gb527]? = some (.cells #[.int .i64 t526, .bool false, .int .i64 x528002_29] 30 (0, 0))) ∧ Aside0 (Below w.heap.size w wc))
        case first =>
         have H := HC30.out
         clear HC30
         by_cases c31 : t529 > 1
         ·rw [if_pos c31] at H
          have c31b0 : decide (1 < t529) = true := decide_eq_true c31
          clear c31
          (first | rw [c31b0] | (simp only [i64_w, i32_w]; rw [c31b0]) | skip)
          replace H := Option.bind_eq_some_iff.mp H
          obtain ⟨t530, A320, H⟩ := H
          have A32 := Aside0.mk A320
          clear A320
          have H' := Aside0.mk H
          clear H
          go_wp2_with (first | ((with_reducible refine gate_callee (f := 63) rfl ?_); refine goesL_ (some 51) rfl rfl Tryz.func63 (by kernel_rfl) rfl #[.string a0, .int .i64 (wrap64 (a1 + 1))] rfl q14_ ?_; (with_reducible refine (spec_l3At.calls a0 (wrap64 (a1 + 1)) t530 _ A32.out).mono ?_); rintro e w' ⟨rfl, ⟨nd, rfl⟩⟩; refine ⟨_, rfl, ?_⟩; (try (rw [drewN_self wc]; generalize hq_ : World.drewN wc _ = wc; have n0_ : Aside0 (wc.heap[gb525]? = some (.cells #[.int .i64 0, .bool false, .int .i64 0] 30 (0, 0))) := ⟨q50_⟩; have n1_ : Aside0 (wc.heap[gb527]? = some (.cells #[.int .i64 t526, .bool false, .int .i64 0] 30 (0, 0))) := ⟨by rw [← hq_]; exact q64_⟩; have n2_ : Aside0 (Below w.heap.size w wc) := ⟨by rw [← hq_]; exact q27_⟩; clear BK525 BK527 HB hq_; have BK525 := n0_; have BK527 := n1_; have HB := n2_; clear n0_ n1_ n2_)); have hnb33 := NB527_525.out; have hnc33 := NB525_527.out; have hcz34_0 : wc.cell? ⟨gb527, 0, none⟩ = some (.int .i64 t526) := (blk_cell BK527.out 0).trans rfl; have hcz34_1 : wc.cell? ⟨gb527, 1, none⟩ = some (.bool false) := (blk_cell BK527.out 1).trans rfl; have hcz34_2 : wc.cell? ⟨gb527, 2, none⟩ = some (.int .i64 0) := (blk_cell BK527.out 2).trans rfl; have hfz34_0 := blk_frozen BK527.out 0; have hfz34_1 := blk_frozen BK527.out 1; have hfz34_2 := blk_frozen BK527.out 2))
          go_meet
          case rel => exact ⟨_, (t530), H', ⟨by have := HJ2.out; have := HJ20.out; first | omega | exact Nat.le_refl _⟩, ⟨by (with_reducible repeat (first | refine blk_drewN ?_ _ | refine blk_drew ?_ | refine blk_alloc ?_ _)); refine blk_far ?_ NB525_527.out _; (with_reducible repeat (first | refine blk_drewN ?_ _ | refine blk_drew ?_ | refine blk_alloc ?_ _)); exact BK525.out⟩, ⟨by (with_reducible repeat (first | refine blk_drewN ?_ _ | refine blk_drew ?_ | refine blk_alloc ?_ _)); refine blk_put (cs := #[.int .i64 t526, .bool false, .int .i64 0]) ?_ 2 _ rfl; (with_reducible repeat (first | refine blk_drewN ?_ _ | refine blk_drew ?_ | refine blk_alloc ?_ _)); exact BK527.out⟩, ⟨q27_⟩⟩
         ·rw [if_neg c31] at H
          have c31b0 : decide (1 < t529) = false := decide_eq_false c31
          clear c31
          (first | rw [c31b0] | (simp only [i64_w, i32_w]; rw [c31b0]) | skip)
          have H' := Aside0.mk H
          clear H
          go_wp2
          go_meet
          case rel => exact ⟨_, (0), H', ⟨by have := HJ2.out; have := HJ20.out; first | omega | exact Nat.le_refl _⟩, ⟨q63_⟩, ⟨q64_⟩, ⟨q27_⟩⟩
        case rest =>
         clear HC30
         try clear c1
         try clear c2
         try clear p2 p2
         try clear c3
         try clear c5
         try clear c5b0
         try clear c6
         try clear p6 p6
         try clear c9
         try clear c9b0
         try clear c9b1
         try clear c10
         try clear c10b0
         try clear c12
         try clear c17
         try clear c23
         try clear c24
         try clear c26
         try clear c26b0
         try clear c26b1
         try clear c27
         try clear c28
         try clear c31
         try clear c31b0
         try clear c33
         try clear hcz13_0 hcz13_1 hcz13_2
         try clear hcz14_0 hcz14_1 hcz14_2
         try clear hcz18_0 hcz18_1 hcz18_2
         try clear hcz19_0 hcz19_1 hcz19_2
         try clear hcz24_0 hcz24_1 hcz24_2
         try clear hcz29_0 hcz29_1 hcz29_2
         try clear hcz34_0 hcz34_1 hcz34_2
         try clear hcz7_0 hcz7_1 hcz7_2
         try clear hfz13_0 hfz13_1 hfz13_2
         try clear hfz14_0 hfz14_1 hfz14_2
         try clear hfz18_0 hfz18_1 hfz18_2
         try clear hfz19_0 hfz19_1 hfz19_2
         try clear hfz24_0 hfz24_1 hfz24_2
         try clear hfz29_0 hfz29_1 hfz29_2
         try clear hfz34_0 hfz34_1 hfz34_2
         try clear hfz7_0 hfz7_1 hfz7_2
         obtain ⟨kq, x528002_29, HA, HJ29, BK525, BK527, HB⟩ := hcut
         cases kq with
         | zero => exact absurd HA.out (by simp [spec_ReadIns.j2])
         | succ kj29 =>
          have H := HA.out
          clear HA
          simp only [spec_ReadIns.j2] at H
          by_cases c35 : t529 > 2
          ·rw [if_pos c35] at H
           have c35b0 : decide (2 < t529) = true := decide_eq_true c35
           clear c35
           replace H := Option.bind_eq_some_iff.mp H
           obtain ⟨t531, A360, H⟩ := H
           have A36 := Aside0.mk A360
           clear A360
           simp only [Option.some.injEq, Prod.mk.injEq] at H
           obtain ⟨rfl, rfl, rfl, rfl⟩ := H
           try go_wp2
           have n0_ := Aside0.mk (blk_drew BK525.out)
           have n1_ := Aside0.mk (blk_drew BK527.out)
           have n2_ := Aside0.mk (below_drew1 HB.out)
           clear BK525
           clear BK527
           clear HB
           have BK525 := n0_
           have BK527 := n1_
           have HB := n2_
           clear n0_ n1_ n2_
           refine start_ (n := 10) (S := fun w' => w'.cell? ⟨gb527, 0, none⟩ = some (.int .i64 t526) ∧ w'.cell? ⟨gb527, 1, none⟩ = some (.bool false) ∧ w'.cell? ⟨gb527, 2, none⟩ = some (.int .i64 x528002_29)) (ds := [9]) #[false, false, false, false, false, false, false, false, false, false] (by kernel_rfl) rfl rfl ⟨(blk_cell BK527.out 0).trans rfl, (blk_cell BK527.out 1).trans rfl, (blk_cell BK527.out 2).trans rfl⟩ (fun hHeld => ?_); refine with_tabW spec_ReadIns.tab15 spec_ReadIns.bits15 (fun HT_ HW_ => ?_)
           generalize wc.drew = w37 at BK525 BK527 HB hHeld ⊢
           refine pure_ (i := 0) (N := some 55) (v := ?_) (a' := ?_) #[true, false, false, false, false, false, false, false, false, false] rfl rfl (any_of HT_.out (by kernel_rfl)) (fun _ _ _ h => h) (Or.inl ⟨by rfl, ?_⟩) ?_ ?_
           rotate_left
           ·intro w'
            go_simp
            with_reducible rfl
           rotate_left
           ·simp only [Act.put, List.setIfInBounds_toArray, List.set_cons_zero, List.set_cons_succ, i64_w, i32_w]
            rfl
           refine pure_ (i := 2) (N := some 57) (v := ?_) (a' := ?_) #[true, false, true, false, false, false, false, false, false, false] rfl rfl (any_of HT_.out (by kernel_rfl)) (fun _ _ _ h => h) (Or.inl ⟨by rfl, ?_⟩) ?_ ?_
           rotate_left
           ·intro w'
            go_simp
            with_reducible rfl
           rotate_left
           ·simp only [Act.put, List.setIfInBounds_toArray, List.set_cons_zero, List.set_cons_succ, i64_w, i32_w]
            rfl
           refine pure_ (i := 3) (N := some 58) (v := ?_) (a' := ?_) #[true, false, true, true, false, false, false, false, false, false] rfl rfl (any_of HT_.out (by kernel_rfl)) (fun _ _ _ h => h) (Or.inl ⟨by rfl, ?_⟩) ?_ ?_
           rotate_left
           ·intro w'
            go_simp
            with_reducible rfl
           rotate_left
           ·simp only [Act.put, List.setIfInBounds_toArray, List.set_cons_zero, List.set_cons_succ, i64_w, i32_w]
            rfl
           refine pure_ (i := 4) (N := some 59) (v := ?_) (a' := ?_) #[true, false, true, true, true, false, false, false, false, false] rfl rfl (any_of HT_.out (by kernel_rfl)) (fun _ _ _ h => h) (Or.inl ⟨by rfl, ?_⟩) ?_ ?_
           rotate_left
           ·intro w'
            go_simp
            with_reducible rfl
           rotate_left
           ·simp only [Act.put, List.setIfInBounds_toArray, List.set_cons_zero, List.set_cons_succ, i64_w, i32_w]
            rfl
           refine take_ (i := 1) (N := some 56) (v := ?_) (a' := ?_) #[true, true, true, true, true, false, false, false, false, false] rfl rfl (take_ofW HT_.out HW_.out (by kernel_rfl)) (fun _ _ _ h => h) (Or.inl ⟨by rfl, ?_⟩) hHeld ?_ ?_
           rotate_left
           ·rintro w' ⟨s0, s1, s2⟩
            go_simp
            with_reducible rfl
           rotate_left
           ·simp only [Act.put, List.setIfInBounds_toArray, List.set_cons_zero, List.set_cons_succ, i64_w, i32_w]
            rfl
           refine one_ (i := 5) (N := some 60) #[true, true, true, true, true, true, false, false, false, false] rfl rfl (one_of HT_.out (by kernel_rfl)) (by decide) (fun K hK => ?_)
           refine goes_ Tryz.func63 (by kernel_rfl) rfl #[.string a0, .int .i64 (wrap64 (a1 + 2))] (by rfl) rfl rfl q51_ ?_
           with_reducible refine (spec_l3At.calls a0 (wrap64 (a1 + 2)) t531 _ A36.out).mono ?_
           rintro e w' ⟨rfl, ⟨nd, rfl⟩⟩
           refine ⟨_, rfl, ?_⟩
           refine hK.out _ _ ⟨(blk_cell BK527.out 0).trans rfl, (blk_cell BK527.out 1).trans rfl, (blk_cell BK527.out 2).trans rfl⟩ (fun hHeld => ?_)
           clear hK K
           refine norm_ (a' := ?_) ?_ ?_
           rotate_left
           ·show Act.put _ (some 60) _ = _
            simp only [Act.put, List.setIfInBounds_toArray, List.set_cons_zero, List.set_cons_succ, i64_w, i32_w]
            rfl
           refine pure_ (i := 6) (N := some 61) (v := ?_) (a' := ?_) #[true, true, true, true, true, true, true, false, false, false] rfl rfl (any_of HT_.out (by kernel_rfl)) (fun _ _ _ h => h) (Or.inl ⟨by rfl, ?_⟩) ?_ ?_
           rotate_left
           ·intro w'
            go_simp
            with_reducible rfl
           rotate_left
           ·simp only [Act.put, List.setIfInBounds_toArray, List.set_cons_zero, List.set_cons_succ, i64_w, i32_w]
            rfl
           refine pure_ (i := 7) (N := some 62) (v := ?_) (a' := ?_) #[true, true, true, true, true, true, true, true, false, false] rfl rfl (any_of HT_.out (by kernel_rfl)) (fun _ _ _ h => h) (Or.inl ⟨by rfl, ?_⟩) ?_ ?_
           rotate_left
           ·intro w'
            go_simp
            with_reducible rfl
           rotate_left
           ·simp only [Act.put, List.setIfInBounds_toArray, List.set_cons_zero, List.set_cons_succ, i64_w, i32_w]
            rfl
           refine pure_ (i := 8) (N := some 63) (v := ?_) (a' := ?_) #[true, true, true, true, true, true, true, true, true, false] rfl rfl (any_of HT_.out (by kernel_rfl)) (fun _ _ _ h => h) (Or.inl ⟨by rfl, ?_⟩) ?_ ?_
           rotate_left
           ·intro w'
            go_simp
            with_reducible rfl
           rotate_left
           ·simp only [Act.put, List.setIfInBounds_toArray, List.set_cons_zero, List.set_cons_succ, i64_w, i32_w]
            rfl
           refine last_ (i := 9) (N := none) #[true, true, true, true, true, true, true, true, true, true] rfl rfl (one_of HT_.out (by kernel_rfl)) (by decide) (fun K hK => ?_)
           have hs38 : w37.cell? ⟨gb527, 2, none⟩ = some (.int .i64 x528002_29) := bz_ BK527 2
           have hfs38 := blk_frozen BK527.out 2
           have hns38_0 := NB525_527.out
           have hms38_0 := NB527_525.out
           refine skip_ (w1 := ?_) (by rfl) rfl ?_ ?_
           rotate_left
           ·go_simp
            rfl
           refine hK.out _ _ ?_
           clear hK K
           refine done_ (done_of HT_.out (by kernel_rfl)) ?_
           have hnb39 := NB527_525.out
           have hnc39 := NB525_527.out
           have hcz40_0 : w37.cell? ⟨gb527, 0, none⟩ = some (.int .i64 t526) := bz_ BK527 0
           have hcz40_1 : w37.cell? ⟨gb527, 1, none⟩ = some (.bool false) := bz_ BK527 1
           have hcz40_2 : w37.cell? ⟨gb527, 2, none⟩ = some (.int .i64 x528002_29) := bz_ BK527 2
           have hfz40_0 := blk_frozen BK527.out 0
           have hfz40_1 := blk_frozen BK527.out 1
           have hfz40_2 := blk_frozen BK527.out 2
           have hcz41_0 : w37.cell? ⟨gb525, 0, none⟩ = some (.int .i64 0) := bz_ BK525 0
           have hcz41_1 : w37.cell? ⟨gb525, 1, none⟩ = some (.bool false) := bz_ BK525 1
           have hcz41_2 : w37.cell? ⟨gb525, 2, none⟩ = some (.int .i64 0) := bz_ BK525 2
           have hfz41_0 := blk_frozen BK525.out 0
           have hfz41_1 := blk_frozen BK525.out 1
           have hfz41_2 := blk_frozen BK525.out 2
           try go_wp2
           refine bodyPost_ret (results_ct rfl _ _ gb525 30 #[.int .i64 t526, .bool false, .int .i64 (wrap64 (x528002_29 + (wrap64 (256 * t531))))] (0, 0) _ rfl (by (with_reducible repeat (first | refine blk_drewN ?_ _ | refine blk_drew ?_ | refine blk_alloc ?_ _)); refine blk_put (cs := #[.int .i64 t526, .bool false, .int .i64 0]) ?_ 2 _ rfl; (with_reducible repeat (first | refine blk_drewN ?_ _ | refine blk_drew ?_ | refine blk_alloc ?_ _)); refine blk_put (cs := #[.int .i64 t526, .bool false, .int .i64 0]) ?_ 1 _ rfl; (with_reducible repeat (first | refine blk_drewN ?_ _ | refine blk_drew ?_ | refine blk_alloc ?_ _)); refine blk_put (cs := #[.int .i64 0, .bool false, .int .i64 0]) ?_ 0 _ rfl; (with_reducible repeat (first | refine blk_drewN ?_ _ | refine blk_drew ?_ | refine blk_alloc ?_ _)); refine blk_far ?_ NB525_527.out _; (with_reducible repeat (first | refine blk_drewN ?_ _ | refine blk_drew ?_ | refine blk_alloc ?_ _)); exact BK525.out) Tryz.underlying30 rfl (by kernel_rfl)) rfl ?_
           exact ⟨q54_, q27_⟩
          ·rw [if_neg c35] at H
           have c35b0 : decide (2 < t529) = false := decide_eq_false c35
           clear c35
           simp only [Option.some.injEq, Prod.mk.injEq] at H
           obtain ⟨rfl, rfl, rfl, rfl⟩ := H
           have hnb42 := NB527_525.out
           have hnc42 := NB525_527.out
           have hcz43_0 : wc.cell? ⟨gb527, 0, none⟩ = some (.int .i64 t526) := bz_ BK527 0
           have hcz43_1 : wc.cell? ⟨gb527, 1, none⟩ = some (.bool false) := bz_ BK527 1
           have hcz43_2 : wc.cell? ⟨gb527, 2, none⟩ = some (.int .i64 x528002_29) := bz_ BK527 2
           have hfz43_0 := blk_frozen BK527.out 0
           have hfz43_1 := blk_frozen BK527.out 1
           have hfz43_2 := blk_frozen BK527.out 2
           have hcz44_0 : wc.cell? ⟨gb525, 0, none⟩ = some (.int .i64 0) := bz_ BK525 0
           have hcz44_1 : wc.cell? ⟨gb525, 1, none⟩ = some (.bool false) := bz_ BK525 1
           have hcz44_2 : wc.cell? ⟨gb525, 2, none⟩ = some (.int .i64 0) := bz_ BK525 2
           have hfz44_0 := blk_frozen BK525.out 0
           have hfz44_1 := blk_frozen BK525.out 1
           have hfz44_2 := blk_frozen BK525.out 2
           go_wp2
           refine bodyPost_ret (results_ct rfl _ _ gb525 30 #[.int .i64 t526, .bool false, .int .i64 x528002_29] (0, 0) _ rfl (by (with_reducible repeat (first | refine blk_drewN ?_ _ | refine blk_drew ?_ | refine blk_alloc ?_ _)); refine blk_put (cs := #[.int .i64 t526, .bool false, .int .i64 0]) ?_ 2 _ rfl; (with_reducible repeat (first | refine blk_drewN ?_ _ | refine blk_drew ?_ | refine blk_alloc ?_ _)); refine blk_put (cs := #[.int .i64 t526, .bool false, .int .i64 0]) ?_ 1 _ rfl; (with_reducible repeat (first | refine blk_drewN ?_ _ | refine blk_drew ?_ | refine blk_alloc ?_ _)); refine blk_put (cs := #[.int .i64 0, .bool false, .int .i64 0]) ?_ 0 _ rfl; (with_reducible repeat (first | refine blk_drewN ?_ _ | refine blk_drew ?_ | refine blk_alloc ?_ _)); exact BK525.out) Tryz.underlying30 rfl (by kernel_rfl)) rfl ?_
           exact ⟨q54_, q27_⟩
end Go.Proofs.YtodlnnoekccmmaaGreatDoor.QFnReadIns
