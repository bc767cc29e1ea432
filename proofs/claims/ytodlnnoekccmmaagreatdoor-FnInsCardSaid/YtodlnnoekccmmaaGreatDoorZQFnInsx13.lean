/- The machine's side of a law, written by a program of this session for this claim. -/
import Derived.Test.YtodlnnoekccmmaaGreatDoorZQq
import Derived.Test.YtodlnnoekccmmaaGreatDoorZQFnInsx0
import Derived.Test.YtodlnnoekccmmaaGreatDoorZQFnInsx2
import Derived.Test.YtodlnnoekccmmaaGreatDoorZQFnInsx7
import Derived.Test.YtodlnnoekccmmaaGreatDoorZQFnInsx8
import Derived.Test.YtodlnnoekccmmaaGreatDoorZQFnInsx9
import Derived.Test.YtodlnnoekccmmaaGreatDoorZQFnInsx11
import Derived.Test.YtodlnnoekccmmaaGreatDoorZQFnInsx12
namespace Go.Proofs.YtodlnnoekccmmaaGreatDoor.QFnIns
open Go.Proofs.YtodlnnoekccmmaaGreatDoor.Qq
open Go.RowKit Go.Proofs.YtodlnnoekccmmaaGreatDoor.LibX Go.Proofs.YtodlnnoekccmmaaGreatDoor.LibE Go.Proofs.YtodlnnoekccmmaaGreatDoorW.PrintWords Go.Proofs.YtodlnnoekccmmaaGreatDoorW.PrintLast Go.Proofs.YtodlnnoekccmmaaGreatDoorW.PrintMore
attribute [local go_sem] max2_int min2_int max_two min_two max_three min_three max_four min_four   -- for this text's walks alone
set_option maxHeartbeats 8000000
set_option maxRecDepth 100000
set_option linter.unusedVariables false
set_option linter.unusedSimpArgs false
def spec_InsOk.j0 : Nat → Bool → Int → Bool → Int → Option (Bool)
 | 0, _, _, _, _ => none
 | k + 1, x26, x490000, x490001, x490002 => if x26 = true then ((spec_l1In.f x490002 0 255).bind fun t495 => (some t495)) else (some (x490002 == 0))
def spec_InsOk.f (k : Nat) (a0_0 : Int) (a0_1 : Bool) (a0_2 : Int) : Option (Bool) := (spec_LengthOf.f k a0_0 a0_1).bind fun t490 => (if t490 = 0 then (some false) else ((spec_l3Template.f k a0_0 a0_1).bind fun t491 => ((spec_l3Hole.f k t491).bind fun bt492 => (if bt492.2.toList = ([110, 49, 54] : List UInt8) then ((spec_l1In.f a0_2 0 65535).bind fun t494 => (some t494)) else (if bt492.2.toList = ([110, 56] : List UInt8) then (spec_InsOk.j0 k (bt492.2.toList == ([110, 56] : List UInt8)) a0_0 a0_1 a0_2) else (spec_InsOk.j0 k (bt492.2.toList == ([101, 56] : List UInt8)) a0_0 a0_1 a0_2))))))
theorem spec_InsOk.mono_l : ∀ k, (∀ y0 y1 y2 y3, LeO (spec_InsOk.j0 k y0 y1 y2 y3) (spec_InsOk.j0 (k + 1) y0 y1 y2 y3))
 | 0 => fun _ _ _ _ r h => by simp [spec_InsOk.j0] at h
 | k + 1 => by
  have ih0 := spec_InsOk.mono_l k
  ·intro y0 y1 y2 y3
   unfold spec_InsOk.j0
   repeat' first
   | (with_reducible first | exact ih0 _ _ _ _ | exact spec_LengthOf.mono _ _ _ | exact spec_l3Hole.mono _ _ | exact spec_l3Template.mono _ _ _ | exact LeO.refl _ | exact LeO.none _ | refine LeO.ite ?_ ?_ | refine LeO.bind ?_ (fun _ => ?_))
   | exact ih0 _ _ _ _
   | exact spec_LengthOf.mono _ _ _
   | exact spec_l3Hole.mono _ _
   | exact spec_l3Template.mono _ _ _
   | exact LeO.none _
   | refine LeO.ite ?_ ?_
   | refine LeO.bind ?_ (fun _ => ?_)
theorem spec_InsOk.mono : ∀ a0 a1 a2 k, LeO (spec_InsOk.f k a0 a1 a2) (spec_InsOk.f (k + 1) a0 a1 a2) := by
 intro a0 a1 a2 k
 have ih0 := spec_InsOk.mono_l k
 unfold spec_InsOk.f
 repeat' first
   | (with_reducible first | exact ih0 _ _ _ _ | exact spec_LengthOf.mono _ _ _ | exact spec_l3Hole.mono _ _ | exact spec_l3Template.mono _ _ _ | exact LeO.refl _ | exact LeO.none _ | refine LeO.ite ?_ ?_ | refine LeO.bind ?_ (fun _ => ?_))
   | exact ih0 _ _ _ _
   | exact spec_LengthOf.mono _ _ _
   | exact spec_l3Hole.mono _ _
   | exact spec_l3Template.mono _ _ _
   | exact LeO.none _
   | refine LeO.ite ?_ ?_
   | refine LeO.bind ?_ (fun _ => ?_)
theorem spec_InsOk.calls (k : Nat) (a0_0 : Int) (a0_1 : Bool) (a0_2 : Int) (r : Bool) (w : World) (h : spec_InsOk.f k a0_0 a0_1 a0_2 = some r) :
  Calls Tryz.prog 21 #[.agg #[.int .i64 a0_0, .bool a0_1, .int .i64 a0_2]] w fun e w' => e = .returned (.bool r) ∧ Below w.heap.size w w' := by
 have hu30 := Tryz.underlying30
 have HB := Aside0.mk (Below.refl w.heap.size w)
 have H : ((spec_LengthOf.f k a0_0 a0_1).bind fun t490 => (if t490 = 0 then (some false) else ((spec_l3Template.f k a0_0 a0_1).bind fun t491 => ((spec_l3Hole.f k t491).bind fun bt492 => (if bt492.2.toList = ([110, 49, 54] : List UInt8) then ((spec_l1In.f a0_2 0 65535).bind fun t494 => (some t494)) else (if bt492.2.toList = ([110, 56] : List UInt8) then (spec_InsOk.j0 k (bt492.2.toList == ([110, 56] : List UInt8)) a0_0 a0_1 a0_2) else (spec_InsOk.j0 k (bt492.2.toList == ([101, 56] : List UInt8)) a0_0 a0_1 a0_2))))))) = some r := h
 clear h
 replace H := Option.bind_eq_some_iff.mp H
 obtain ⟨t490, A20, H⟩ := H
 have A2 := Aside0.mk A20
 clear A20
 by_cases c3 : t490 = 0
 ·rw [if_pos c3] at H
  have c3b0 : (t490 == 0) = true := beq_iff_eq.mpr c3
  have c3b1 : (t490 != 0) = false := bne_eq_false_iff_eq.mpr c3
  clear c3
  obtain rfl := Option.some.inj H
  go_enter Tryz.func21, Tryz.ntmps21
  go_wp2_with (first | ((with_reducible refine gate_dst (N := 1) rfl ?_); refine box_event ?hg (N := 1) ?hd (cs := #[.int .i64 a0_0, .bool a0_1, .int .i64 a0_2]) (t := 30) ?hr ?_; (case hd => rfl); (case hg => rfl); (case hr => exact q114_); intro gb489 hg w4 hbox hb; have n0_ := Aside0.mk (below_step q57_ hb); have n1_ := Aside0.mk (hbox); have n2_ := Aside0.mk ((q43_ : w.heap.size ≤ gb489)); have n3_ := Aside0.mk ((q43_ : w.heap.size ≤ gb489)); clear HB; have HB := n0_; have BK489 := n1_; have GW489 := n2_; have GE489 := n3_; clear n0_ n1_ n2_ n3_; clear hb hbox hg; have hcz5_0 : w4.cell? ⟨gb489, 0, none⟩ = some (.int .i64 a0_0) := (blk_cell BK489.out 0).trans rfl; have hcz5_1 : w4.cell? ⟨gb489, 1, none⟩ = some (.bool a0_1) := (blk_cell BK489.out 1).trans rfl; have hcz5_2 : w4.cell? ⟨gb489, 2, none⟩ = some (.int .i64 a0_2) := (blk_cell BK489.out 2).trans rfl; have hfz5_0 := blk_frozen BK489.out 0; have hfz5_1 := blk_frozen BK489.out 1; have hfz5_2 := blk_frozen BK489.out 2) | ((with_reducible refine gate_callee (f := 15) rfl ?_); refine goesL_ (some 9) rfl rfl Tryz.func15 (by kernel_rfl) rfl #[.int .i64 a0_0, .bool a0_1] rfl q56_ ?_; (with_reducible refine (spec_LengthOf.calls k a0_0 a0_1 t490 _ A2.out).mono ?_); rintro e w6 ⟨rfl, hb⟩; refine ⟨_, rfl, ?_⟩; have n0_ := Aside0.mk (blk_below (g := gb489) (o := .cells #[.int .i64 a0_0, .bool a0_1, .int .i64 a0_2] 30 (0, 0)) q65_ hb); have n1_ := Aside0.mk (below_step q47_ hb); clear BK489; clear HB; have BK489 := n0_; have HB := n1_; clear n0_ n1_; (try clear hb)))
  go_ret
  exact ⟨q59_, q47_⟩
 ·rw [if_neg c3] at H
  have c3b0 : (t490 == 0) = false := beq_eq_false_iff_ne.mpr c3
  have c3b1 : (t490 != 0) = true := bne_iff_ne.mpr c3
  replace H := Option.bind_eq_some_iff.mp H
  obtain ⟨t491, A70, H⟩ := H
  have A7 := Aside0.mk A70
  clear A70
  replace H := Option.bind_eq_some_iff.mp H
  obtain ⟨⟨t492, t493⟩, A80, H⟩ := H
  replace H : (if t493.toList = ([110, 49, 54] : List UInt8) then ((spec_l1In.f a0_2 0 65535).bind fun t494 => (some t494)) else (if t493.toList = ([110, 56] : List UInt8) then (spec_InsOk.j0 k (t493.toList == ([110, 56] : List UInt8)) a0_0 a0_1 a0_2) else (spec_InsOk.j0 k (t493.toList == ([101, 56] : List UInt8)) a0_0 a0_1 a0_2))) = some r := H
  have A8 := Aside0.mk A80
  clear A80
  by_cases c9 : t493.toList = ([110, 49, 54] : List UInt8)
  ·rw [if_pos c9] at H
   have c9b0 : (t493.toList == ([110, 49, 54] : List UInt8)) = true := beq_iff_eq.mpr c9
   have c9b1 : (t493.toList != ([110, 49, 54] : List UInt8)) = false := bne_eq_false_iff_eq.mpr c9
   clear c9
   replace H := Option.bind_eq_some_iff.mp H
   obtain ⟨t494, A100, H⟩ := H
   have A10 := Aside0.mk A100
   clear A100
   obtain rfl := Option.some.inj H
   go_enter Tryz.func21, Tryz.ntmps21
   go_wp2_with (first | ((with_reducible refine gate_dst (N := 1) rfl ?_); refine box_event ?hg (N := 1) ?hd (cs := #[.int .i64 a0_0, .bool a0_1, .int .i64 a0_2]) (t := 30) ?hr ?_; (case hd => rfl); (case hg => rfl); (case hr => exact q114_); intro gb489 hg w11 hbox hb; have n0_ := Aside0.mk (below_step q57_ hb); have n1_ := Aside0.mk (hbox); have n2_ := Aside0.mk ((q43_ : w.heap.size ≤ gb489)); have n3_ := Aside0.mk ((q43_ : w.heap.size ≤ gb489)); clear HB; have HB := n0_; have BK489 := n1_; have GW489 := n2_; have GE489 := n3_; clear n0_ n1_ n2_ n3_; clear hb hbox hg; have hcz12_0 : w11.cell? ⟨gb489, 0, none⟩ = some (.int .i64 a0_0) := (blk_cell BK489.out 0).trans rfl; have hcz12_1 : w11.cell? ⟨gb489, 1, none⟩ = some (.bool a0_1) := (blk_cell BK489.out 1).trans rfl; have hcz12_2 : w11.cell? ⟨gb489, 2, none⟩ = some (.int .i64 a0_2) := (blk_cell BK489.out 2).trans rfl; have hfz12_0 := blk_frozen BK489.out 0; have hfz12_1 := blk_frozen BK489.out 1; have hfz12_2 := blk_frozen BK489.out 2) | ((with_reducible refine gate_callee (f := 15) rfl ?_); refine goesL_ (some 9) rfl rfl Tryz.func15 (by kernel_rfl) rfl #[.int .i64 a0_0, .bool a0_1] rfl q56_ ?_; (with_reducible refine (spec_LengthOf.calls k a0_0 a0_1 t490 _ A2.out).mono ?_); rintro e w13 ⟨rfl, hb⟩; refine ⟨_, rfl, ?_⟩; have n0_ := Aside0.mk (blk_below (g := gb489) (o := .cells #[.int .i64 a0_0, .bool a0_1, .int .i64 a0_2] 30 (0, 0)) q65_ hb); have n1_ := Aside0.mk (below_step q47_ hb); clear BK489; clear HB; have BK489 := n0_; have HB := n1_; clear n0_ n1_; (try clear hb); have hcz14_0 : w13.cell? ⟨gb489, 0, none⟩ = some (.int .i64 a0_0) := (blk_cell BK489.out 0).trans rfl; have hcz14_1 : w13.cell? ⟨gb489, 1, none⟩ = some (.bool a0_1) := (blk_cell BK489.out 1).trans rfl; have hcz14_2 : w13.cell? ⟨gb489, 2, none⟩ = some (.int .i64 a0_2) := (blk_cell BK489.out 2).trans rfl; have hfz14_0 := blk_frozen BK489.out 0; have hfz14_1 := blk_frozen BK489.out 1; have hfz14_2 := blk_frozen BK489.out 2) | ((with_reducible refine gate_callee (f := 60) rfl ?_); refine goesL_ (some 16) rfl rfl Tryz.func60 (by kernel_rfl) rfl #[.int .i64 a0_0, .bool a0_1] rfl q56_ ?_; (with_reducible refine (spec_l3Template.calls k a0_0 a0_1 t491 _ A7.out).mono ?_); rintro e w15 ⟨rfl, hb⟩; refine ⟨_, rfl, ?_⟩; have n0_ := Aside0.mk (blk_below (g := gb489) (o := .cells #[.int .i64 a0_0, .bool a0_1, .int .i64 a0_2] 30 (0, 0)) q65_ hb); have n1_ := Aside0.mk (below_step q47_ hb); clear BK489; clear HB; have BK489 := n0_; have HB := n1_; clear n0_ n1_; (try clear hb)) | ((with_reducible refine gate_callee (f := 59) rfl ?_); refine goesL_ (some 17) rfl rfl Tryz.func59 (by kernel_rfl) rfl #[.string t491] rfl q56_ ?_; (with_reducible refine (spec_l3Hole.calls k t491 t492 t493 _ A8.out).mono ?_); rintro e w16 ⟨rfl, hb⟩; refine ⟨_, rfl, ?_⟩; have n0_ := Aside0.mk (blk_below (g := gb489) (o := .cells #[.int .i64 a0_0, .bool a0_1, .int .i64 a0_2] 30 (0, 0)) q65_ hb); have n1_ := Aside0.mk (below_step q47_ hb); clear BK489; clear HB; have BK489 := n0_; have HB := n1_; clear n0_ n1_; (try clear hb); have hcz17_0 : w16.cell? ⟨gb489, 0, none⟩ = some (.int .i64 a0_0) := (blk_cell BK489.out 0).trans rfl; have hcz17_1 : w16.cell? ⟨gb489, 1, none⟩ = some (.bool a0_1) := (blk_cell BK489.out 1).trans rfl; have hcz17_2 : w16.cell? ⟨gb489, 2, none⟩ = some (.int .i64 a0_2) := (blk_cell BK489.out 2).trans rfl; have hfz17_0 := blk_frozen BK489.out 0; have hfz17_1 := blk_frozen BK489.out 1; have hfz17_2 := blk_frozen BK489.out 2) | ((with_reducible refine gate_callee (f := 51) rfl ?_); refine goesL_ (some 25) rfl rfl Tryz.func51 (by kernel_rfl) rfl #[.int .i64 a0_2, .int .i64 0, .int .i64 65535] rfl q56_ ?_; (with_reducible refine (spec_l1In.calls a0_2 0 65535 t494 _ A10.out).mono ?_); rintro e w' ⟨rfl, ⟨nd, rfl⟩⟩; refine ⟨_, rfl, ?_⟩))
   go_ret
   exact ⟨q59_, q47_⟩
  ·rw [if_neg c9] at H
   have c9b0 : (t493.toList == ([110, 49, 54] : List UInt8)) = false := beq_eq_false_iff_ne.mpr c9
   have c9b1 : (t493.toList != ([110, 49, 54] : List UInt8)) = true := bne_iff_ne.mpr c9
   have HC18 := Aside0.mk H
   clear H
   go_enter Tryz.func21, Tryz.ntmps21
   go_upto_if 26 with (first | ((with_reducible refine gate_dst (N := 1) rfl ?_); refine box_event ?hg (N := 1) ?hd (cs := #[.int .i64 a0_0, .bool a0_1, .int .i64 a0_2]) (t := 30) ?hr ?_; (case hd => rfl); (case hg => rfl); (case hr => exact q114_); intro gb489 hg w19 hbox hb; have n0_ := Aside0.mk (below_step q57_ hb); have n1_ := Aside0.mk (hbox); have n2_ := Aside0.mk ((q43_ : w.heap.size ≤ gb489)); have n3_ := Aside0.mk ((q43_ : w.heap.size ≤ gb489)); clear HB; have HB := n0_; have BK489 := n1_; have GW489 := n2_; have GE489 := n3_; clear n0_ n1_ n2_ n3_; clear hb hbox hg; have hcz20_0 : w19.cell? ⟨gb489, 0, none⟩ = some (.int .i64 a0_0) := (blk_cell BK489.out 0).trans rfl; have hcz20_1 : w19.cell? ⟨gb489, 1, none⟩ = some (.bool a0_1) := (blk_cell BK489.out 1).trans rfl; have hcz20_2 : w19.cell? ⟨gb489, 2, none⟩ = some (.int .i64 a0_2) := (blk_cell BK489.out 2).trans rfl; have hfz20_0 := blk_frozen BK489.out 0; have hfz20_1 := blk_frozen BK489.out 1; have hfz20_2 := blk_frozen BK489.out 2) | ((with_reducible refine gate_callee (f := 15) rfl ?_); refine goesL_ (some 9) rfl rfl Tryz.func15 (by kernel_rfl) rfl #[.int .i64 a0_0, .bool a0_1] rfl q56_ ?_; (with_reducible refine (spec_LengthOf.calls k a0_0 a0_1 t490 _ A2.out).mono ?_); rintro e w21 ⟨rfl, hb⟩; refine ⟨_, rfl, ?_⟩; have n0_ := Aside0.mk (blk_below (g := gb489) (o := .cells #[.int .i64 a0_0, .bool a0_1, .int .i64 a0_2] 30 (0, 0)) q65_ hb); have n1_ := Aside0.mk (below_step q47_ hb); clear BK489; clear HB; have BK489 := n0_; have HB := n1_; clear n0_ n1_; (try clear hb); have hcz22_0 : w21.cell? ⟨gb489, 0, none⟩ = some (.int .i64 a0_0) := (blk_cell BK489.out 0).trans rfl; have hcz22_1 : w21.cell? ⟨gb489, 1, none⟩ = some (.bool a0_1) := (blk_cell BK489.out 1).trans rfl; have hcz22_2 : w21.cell? ⟨gb489, 2, none⟩ = some (.int .i64 a0_2) := (blk_cell BK489.out 2).trans rfl; have hfz22_0 := blk_frozen BK489.out 0; have hfz22_1 := blk_frozen BK489.out 1; have hfz22_2 := blk_frozen BK489.out 2) | ((with_reducible refine gate_callee (f := 60) rfl ?_); refine goesL_ (some 16) rfl rfl Tryz.func60 (by kernel_rfl) rfl #[.int .i64 a0_0, .bool a0_1] rfl q56_ ?_; (with_reducible refine (spec_l3Template.calls k a0_0 a0_1 t491 _ A7.out).mono ?_); rintro e w23 ⟨rfl, hb⟩; refine ⟨_, rfl, ?_⟩; have n0_ := Aside0.mk (blk_below (g := gb489) (o := .cells #[.int .i64 a0_0, .bool a0_1, .int .i64 a0_2] 30 (0, 0)) q65_ hb); have n1_ := Aside0.mk (below_step q47_ hb); clear BK489; clear HB; have BK489 := n0_; have HB := n1_; clear n0_ n1_; (try clear hb)) | ((with_reducible refine gate_callee (f := 59) rfl ?_); refine goesL_ (some 17) rfl rfl Tryz.func59 (by kernel_rfl) rfl #[.string t491] rfl q56_ ?_; (with_reducible refine (spec_l3Hole.calls k t491 t492 t493 _ A8.out).mono ?_); rintro e w24 ⟨rfl, hb⟩; refine ⟨_, rfl, ?_⟩; have n0_ := Aside0.mk (blk_below (g := gb489) (o := .cells #[.int .i64 a0_0, .bool a0_1, .int .i64 a0_2] 30 (0, 0)) q65_ hb); have n1_ := Aside0.mk (below_step q47_ hb); clear BK489; clear HB; have BK489 := n0_; have HB := n1_; clear n0_ n1_; (try clear hb)))
   (try simp only [Act.put, List.setIfInBounds_toArray, List.set_cons_zero, List.set_cons_succ])
   go_cut [26] (fun v26 wc => ∃ (kq : Nat) (x26_17 : Bool), v26 = .bool x26_17 ∧ Aside0 (spec_InsOk.j0 kq x26_17 a0_0 a0_1 a0_2 = some r) ∧ Aside0 (kq ≤ k) ∧ Aside0 (wc.heap[gb489]? = some (.cells #[.int .i64 a0_0, .bool a0_1, .int .i64 a0_2] 30 (0, 0))) ∧ Aside0 (Below w.heap.size w wc))
   case first =>
    have H := HC18.out
    clear HC18
    by_cases c25 : t493.toList = ([110, 56] : List UInt8)
    ·rw [if_pos c25] at H
     have c25b0 : (t493.toList == ([110, 56] : List UInt8)) = true := beq_iff_eq.mpr c25
     have c25b1 : (t493.toList != ([110, 56] : List UInt8)) = false := bne_eq_false_iff_eq.mpr c25
     clear c25
     (first | rw [c25b0] | (simp only [i64_w, i32_w]; rw [c25b0]) | skip)
     have H' := Aside0.mk H
     clear H
     go_wp2
     go_meet
     case rel => exact ⟨_, ((t493.toList == ([110, 56] : List UInt8))), q73_, H', ⟨q99_⟩, ⟨q65_⟩, ⟨q47_⟩⟩
    ·rw [if_neg c25] at H
     have c25b0 : (t493.toList == ([110, 56] : List UInt8)) = false := beq_eq_false_iff_ne.mpr c25
     have c25b1 : (t493.toList != ([110, 56] : List UInt8)) = true := bne_iff_ne.mpr c25
     (first | rw [c25b0] | (simp only [i64_w, i32_w]; rw [c25b0]) | skip)
     have H' := Aside0.mk H
     clear H
     go_wp2
     go_meet
     case rel => exact ⟨_, ((t493.toList == ([101, 56] : List UInt8))), q73_, H', ⟨q99_⟩, ⟨q65_⟩, ⟨q47_⟩⟩
   case rest =>
    clear HC18
    try clear c1
    try clear c2
    try clear p2
    try clear c3
    try clear c3b0
    try clear c3b1
    try clear c5
    try clear c6
    try clear p6
    try clear c9
    try clear c9b0
    try clear c9b1
    try clear c15
    try clear c21
    try clear c25
    try clear c25b0
    try clear c25b1
    try clear hcz12_0 hcz12_1 hcz12_2
    try clear hcz14_0 hcz14_1 hcz14_2
    try clear hcz17_0 hcz17_1 hcz17_2
    try clear hcz20_0 hcz20_1 hcz20_2
    try clear hcz22_0 hcz22_1 hcz22_2
    try clear hcz5_0 hcz5_1 hcz5_2
    try clear hfz12_0 hfz12_1 hfz12_2
    try clear hfz14_0 hfz14_1 hfz14_2
    try clear hfz17_0 hfz17_1 hfz17_2
    try clear hfz20_0 hfz20_1 hfz20_2
    try clear hfz22_0 hfz22_1 hfz22_2
    try clear hfz5_0 hfz5_1 hfz5_2
    obtain ⟨kq, x26_17, rfl, HA, HJ17, BK489, HB⟩ := hcut
    cases kq with
    | zero => exact absurd HA.out (by simp [spec_InsOk.j0])
    | succ kj17 =>
     have H := HA.out
     clear HA
     simp only [spec_InsOk.j0] at H
     by_cases c26 : x26_17 = true
     ·subst c26
      replace H : ((spec_l1In.f a0_2 0 255).bind fun t495 => (some t495)) = some r := by rw [if_pos rfl] at H; exact H
      replace H := Option.bind_eq_some_iff.mp H
      obtain ⟨t495, A270, H⟩ := H
      have A27 := Aside0.mk A270
      clear A270
      obtain rfl := Option.some.inj H
      have hcz28_0 : wc.cell? ⟨gb489, 0, none⟩ = some (.int .i64 a0_0) := bz_ BK489 0
      have hcz28_1 : wc.cell? ⟨gb489, 1, none⟩ = some (.bool a0_1) := bz_ BK489 1
      have hcz28_2 : wc.cell? ⟨gb489, 2, none⟩ = some (.int .i64 a0_2) := bz_ BK489 2
      have hfz28_0 := blk_frozen BK489.out 0
      have hfz28_1 := blk_frozen BK489.out 1
      have hfz28_2 := blk_frozen BK489.out 2
      go_wp2_with (first | ((with_reducible refine gate_callee (f := 51) rfl ?_); refine goesL_ (some 31) rfl rfl Tryz.func51 (by kernel_rfl) rfl #[.int .i64 a0_2, .int .i64 0, .int .i64 255] rfl q56_ ?_; (with_reducible refine (spec_l1In.calls a0_2 0 255 t495 _ A27.out).mono ?_); rintro e w' ⟨rfl, ⟨nd, rfl⟩⟩; refine ⟨_, rfl, ?_⟩))
      go_ret
      exact ⟨q59_, q47_⟩
     ·replace c26 := Bool.eq_false_iff.mpr c26
      subst c26
      replace H : (some (a0_2 == 0)) = some r := by rw [if_neg (show ¬ (false = true) by decide)] at H; exact H
      obtain rfl := Option.some.inj H
      have hcz29_0 : wc.cell? ⟨gb489, 0, none⟩ = some (.int .i64 a0_0) := bz_ BK489 0
      have hcz29_1 : wc.cell? ⟨gb489, 1, none⟩ = some (.bool a0_1) := bz_ BK489 1
      have hcz29_2 : wc.cell? ⟨gb489, 2, none⟩ = some (.int .i64 a0_2) := bz_ BK489 2
      have hfz29_0 := blk_frozen BK489.out 0
      have hfz29_1 := blk_frozen BK489.out 1
      have hfz29_2 := blk_frozen BK489.out 2
      go_wp2
      go_ret
      exact ⟨q59_, q47_⟩
def spec_InsBytes.f (k : Nat) (a0_0 : Int) (a0_1 : Bool) (a0_2 : Int) : Option (ByteArray) := (spec_InsOk.f k a0_0 a0_1 a0_2).bind fun t497 => (if t497 = true then (if a0_1 = true then (some (strOfNums (([203, (a0_0) % 256] : List Int)))) else ((spec_l3Length.f k a0_0 false).bind fun t501 => (if t501 = 2 then (some (strOfNums (([(a0_0) % 256, (a0_2) % 256] : List Int)))) else (if t501 = 3 then (some (strOfNums (([(a0_0) % 256, (a0_2) % 256, (a0_2 / 256) % 256] : List Int)))) else (some (strOfNums (([(a0_0) % 256] : List Int)))))))) else (some (⟨#[]⟩ : ByteArray)))
theorem spec_InsBytes.mono : ∀ a0 a1 a2 k, LeO (spec_InsBytes.f k a0 a1 a2) (spec_InsBytes.f (k + 1) a0 a1 a2) := by
 intro a0 a1 a2 k
 unfold spec_InsBytes.f
 repeat' first
   | (with_reducible first | exact spec_InsOk.mono _ _ _ _ | exact spec_l3Length.mono _ _ _ | exact LeO.refl _ | exact LeO.none _ | refine LeO.ite ?_ ?_ | refine LeO.bind ?_ (fun _ => ?_))
   | exact spec_InsOk.mono _ _ _ _
   | exact spec_l3Length.mono _ _ _
   | exact LeO.none _
   | refine LeO.ite ?_ ?_
   | refine LeO.bind ?_ (fun _ => ?_)
theorem spec_InsBytes.calls (k : Nat) (a0_0 : Int) (a0_1 : Bool) (a0_2 : Int) (r : ByteArray) (w : World) (h : spec_InsBytes.f k a0_0 a0_1 a0_2 = some r) :
  Calls Tryz.prog 19 #[.agg #[.int .i64 a0_0, .bool a0_1, .int .i64 a0_2]] w fun e w' => e = .returned (.string r) ∧ Below w.heap.size w w' := by
 have hu30 := Tryz.underlying30
 have HB := Aside0.mk (Below.refl w.heap.size w)
 have H : ((spec_InsOk.f k a0_0 a0_1 a0_2).bind fun t497 => (if t497 = true then (if a0_1 = true then (some (strOfNums (([203, (a0_0) % 256] : List Int)))) else ((spec_l3Length.f k a0_0 false).bind fun t501 => (if t501 = 2 then (some (strOfNums (([(a0_0) % 256, (a0_2) % 256] : List Int)))) else (if t501 = 3 then (some (strOfNums (([(a0_0) % 256, (a0_2) % 256, (a0_2 / 256) % 256] : List Int)))) else (some (strOfNums (([(a0_0) % 256] : List Int)))))))) else (some (⟨#[]⟩ : ByteArray)))) = some r := h
 clear h
 replace H := Option.bind_eq_some_iff.mp H
 obtain ⟨t497, A20, H⟩ := H
 have A2 := Aside0.mk A20
 clear A20
 by_cases c3 : t497 = true
 ·subst c3
  replace H : (if a0_1 = true then (some (strOfNums (([203, (a0_0) % 256] : List Int)))) else ((spec_l3Length.f k a0_0 false).bind fun t501 => (if t501 = 2 then (some (strOfNums (([(a0_0) % 256, (a0_2) % 256] : List Int)))) else (if t501 = 3 then (some (strOfNums (([(a0_0) % 256, (a0_2) % 256, (a0_2 / 256) % 256] : List Int)))) else (some (strOfNums (([(a0_0) % 256] : List Int)))))))) = some r := by rw [if_pos rfl] at H; exact H
  by_cases c4 : a0_1 = true
  ·subst c4
   replace H : (some (strOfNums (([203, (a0_0) % 256] : List Int)))) = some r := by rw [if_pos rfl] at H; exact H
   obtain ⟨y498, hy498⟩ : ∃ y_ : List Int, y_ = (([203, (a0_0) % 256] : List Int)) := ⟨_, rfl⟩
   replace H : (some (strOfNums y498)) = some r := by first | (rw [hy498]; with_reducible exact H) | (have H2_ := (Option.bind_some _ _).symm.trans H; rw [hy498]; with_reducible exact H2_) | (have H2_ := (Option.bind_some _ _).symm.trans H; with_reducible exact H2_) | with_reducible exact H | (rw [hy498]; exact H) | exact H
   have Ny498 := Aside0.mk hy498
   clear hy498
   obtain rfl := Option.some.inj H
   go_enter Tryz.func19, Tryz.ntmps19
   go_wp2_with (first | ((with_reducible refine gate_dst (N := 1) rfl ?_); refine box_event ?hg (N := 1) ?hd (cs := #[.int .i64 a0_0, .bool true, .int .i64 a0_2]) (t := 30) ?hr ?_; (case hd => rfl); (case hg => rfl); (case hr => exact q114_); intro gb496 hg w5 hbox hb; have n0_ := Aside0.mk (below_step q57_ hb); have n1_ := Aside0.mk (hbox); have n2_ := Aside0.mk ((q43_ : w.heap.size ≤ gb496)); have n3_ := Aside0.mk ((q43_ : w.heap.size ≤ gb496)); clear HB; have HB := n0_; have BK496 := n1_; have GW496 := n2_; have GE496 := n3_; clear n0_ n1_ n2_ n3_; clear hb hbox hg; have hcz6_0 : w5.cell? ⟨gb496, 0, none⟩ = some (.int .i64 a0_0) := (blk_cell BK496.out 0).trans rfl; have hcz6_1 : w5.cell? ⟨gb496, 1, none⟩ = some (.bool true) := (blk_cell BK496.out 1).trans rfl; have hcz6_2 : w5.cell? ⟨gb496, 2, none⟩ = some (.int .i64 a0_2) := (blk_cell BK496.out 2).trans rfl; have hfz6_0 := blk_frozen BK496.out 0; have hfz6_1 := blk_frozen BK496.out 1; have hfz6_2 := blk_frozen BK496.out 2) | ((with_reducible refine gate_callee (f := 21) rfl ?_); refine goesL_ (some 4) rfl rfl Tryz.func21 (by kernel_rfl) rfl #[.agg #[.int .i64 a0_0, .bool true, .int .i64 a0_2]] rfl q56_ ?_; (with_reducible refine (spec_InsOk.calls k a0_0 true a0_2 true _ A2.out).mono ?_); rintro e w7 ⟨rfl, hb⟩; refine ⟨_, rfl, ?_⟩; have n0_ := Aside0.mk (blk_below (g := gb496) (o := .cells #[.int .i64 a0_0, .bool true, .int .i64 a0_2] 30 (0, 0)) q66_ hb); have n1_ := Aside0.mk (below_step q48_ hb); clear BK496; clear HB; have BK496 := n0_; have HB := n1_; clear n0_ n1_; (try clear hb); have hcz8_0 : w7.cell? ⟨gb496, 0, none⟩ = some (.int .i64 a0_0) := (blk_cell BK496.out 0).trans rfl; have hcz8_1 : w7.cell? ⟨gb496, 1, none⟩ = some (.bool true) := (blk_cell BK496.out 1).trans rfl; have hcz8_2 : w7.cell? ⟨gb496, 2, none⟩ = some (.int .i64 a0_2) := (blk_cell BK496.out 2).trans rfl; have hfz8_0 := blk_frozen BK496.out 0; have hfz8_1 := blk_frozen BK496.out 1; have hfz8_2 := blk_frozen BK496.out 2) | ((with_reducible refine gate_dst (N := 11) rfl ?_); refine Kd.R_lit (Kd.int .u8) _ 5 ?hg (N := 11) ?hd (xs := ([203, (a0_0) % 256] : List Int)) (inner := [.int .u8 203, .int .u8 ((a0_0) % 256)]) (ok := fun _ => True) (okp := fun _ => True) ?hr ?hp (fun _ hk => hk) trivial (Below.refl _ _) (Nat.le_refl _) (by simp) ?_; (case hd => rfl); (case hg => rfl); (case hr => exact q114_); (case hp => exact (Reps.one (show Kd.M (Kd.int .u8) _ _ _ 203 [.int .u8 203] from rfl) (Reps.one (show Kd.M (Kd.int .u8) _ _ _ ((a0_0) % 256) [.int .u8 ((a0_0) % 256)] from rfl) (Reps.none _ _)))); intro v499 w9 ho10 hb hg_ hnew_; clear hg_ hnew_; (first | rw [← Ny498.out] at ho10 | (simp only [Int.reduceToNat] at ho10; rw [← Ny498.out] at ho10)); have n0_ := Aside0.mk (Kd.R_lower ho10 (below_size q48_)); have n1_ := Aside0.mk (blk_below (g := gb496) (o := .cells #[.int .i64 a0_0, .bool true, .int .i64 a0_2] 30 (0, 0)) q66_ hb); have n2_ := Aside0.mk (below_step q48_ hb); clear BK496; clear HB; have HO500 := n0_; have BK496 := n1_; have HB := n2_; clear n0_ n1_ n2_; clear hb ho10; have hcv11 := own_string (P := Tryz.prog) Tryz.underlying22 Tryz.underlying5 Tryz.underlying9 (Kd.own_of_R HO500.out); have hcvq11 := fun m_ : Nat => own_string (P := Tryz.prog) Tryz.underlying22 Tryz.underlying5 Tryz.underlying9 (Kd.own_of_R (Kd.R_drewN HO500.out m_))))
   go_ret
   exact ⟨q59_, q48_⟩
  ·replace c4 := Bool.eq_false_iff.mpr c4
   subst c4
   replace H : ((spec_l3Length.f k a0_0 false).bind fun t501 => (if t501 = 2 then (some (strOfNums (([(a0_0) % 256, (a0_2) % 256] : List Int)))) else (if t501 = 3 then (some (strOfNums (([(a0_0) % 256, (a0_2) % 256, (a0_2 / 256) % 256] : List Int)))) else (some (strOfNums (([(a0_0) % 256] : List Int))))))) = some r := by rw [if_neg (show ¬ (false = true) by decide)] at H; exact H
   replace H := Option.bind_eq_some_iff.mp H
   obtain ⟨t501, A120, H⟩ := H
   have A12 := Aside0.mk A120
   clear A120
   by_cases c13 : t501 = 2
   ·rw [if_pos c13] at H
    have c13b0 : (t501 == 2) = true := beq_iff_eq.mpr c13
    have c13b1 : (t501 != 2) = false := bne_eq_false_iff_eq.mpr c13
    clear c13
    obtain ⟨y502, hy502⟩ : ∃ y_ : List Int, y_ = (([(a0_0) % 256, (a0_2) % 256] : List Int)) := ⟨_, rfl⟩
    replace H : (some (strOfNums y502)) = some r := by first | (rw [hy502]; with_reducible exact H) | (have H2_ := (Option.bind_some _ _).symm.trans H; rw [hy502]; with_reducible exact H2_) | (have H2_ := (Option.bind_some _ _).symm.trans H; with_reducible exact H2_) | with_reducible exact H | (rw [hy502]; exact H) | exact H
    have Ny502 := Aside0.mk hy502
    clear hy502
    obtain rfl := Option.some.inj H
    go_enter Tryz.func19, Tryz.ntmps19
    go_wp2_with (first | ((with_reducible refine gate_dst (N := 1) rfl ?_); refine box_event ?hg (N := 1) ?hd (cs := #[.int .i64 a0_0, .bool false, .int .i64 a0_2]) (t := 30) ?hr ?_; (case hd => rfl); (case hg => rfl); (case hr => exact q114_); intro gb496 hg w14 hbox hb; have n0_ := Aside0.mk (below_step q57_ hb); have n1_ := Aside0.mk (hbox); have n2_ := Aside0.mk ((q43_ : w.heap.size ≤ gb496)); have n3_ := Aside0.mk ((q43_ : w.heap.size ≤ gb496)); clear HB; have HB := n0_; have BK496 := n1_; have GW496 := n2_; have GE496 := n3_; clear n0_ n1_ n2_ n3_; clear hb hbox hg; have hcz15_0 : w14.cell? ⟨gb496, 0, none⟩ = some (.int .i64 a0_0) := (blk_cell BK496.out 0).trans rfl; have hcz15_1 : w14.cell? ⟨gb496, 1, none⟩ = some (.bool false) := (blk_cell BK496.out 1).trans rfl; have hcz15_2 : w14.cell? ⟨gb496, 2, none⟩ = some (.int .i64 a0_2) := (blk_cell BK496.out 2).trans rfl; have hfz15_0 := blk_frozen BK496.out 0; have hfz15_1 := blk_frozen BK496.out 1; have hfz15_2 := blk_frozen BK496.out 2) | ((with_reducible refine gate_callee (f := 21) rfl ?_); refine goesL_ (some 4) rfl rfl Tryz.func21 (by kernel_rfl) rfl #[.agg #[.int .i64 a0_0, .bool false, .int .i64 a0_2]] rfl q56_ ?_; (with_reducible refine (spec_InsOk.calls k a0_0 false a0_2 true _ A2.out).mono ?_); rintro e w16 ⟨rfl, hb⟩; refine ⟨_, rfl, ?_⟩; have n0_ := Aside0.mk (blk_below (g := gb496) (o := .cells #[.int .i64 a0_0, .bool false, .int .i64 a0_2] 30 (0, 0)) q66_ hb); have n1_ := Aside0.mk (below_step q48_ hb); clear BK496; clear HB; have BK496 := n0_; have HB := n1_; clear n0_ n1_; (try clear hb); have hcz17_0 : w16.cell? ⟨gb496, 0, none⟩ = some (.int .i64 a0_0) := (blk_cell BK496.out 0).trans rfl; have hcz17_1 : w16.cell? ⟨gb496, 1, none⟩ = some (.bool false) := (blk_cell BK496.out 1).trans rfl; have hcz17_2 : w16.cell? ⟨gb496, 2, none⟩ = some (.int .i64 a0_2) := (blk_cell BK496.out 2).trans rfl; have hfz17_0 := blk_frozen BK496.out 0; have hfz17_1 := blk_frozen BK496.out 1; have hfz17_2 := blk_frozen BK496.out 2) | ((with_reducible refine gate_callee (f := 52) rfl ?_); refine goesL_ (some 15) rfl rfl Tryz.func52 (by kernel_rfl) rfl #[.int .i64 a0_0, .bool false] rfl q56_ ?_; (with_reducible refine (spec_l3Length.calls k a0_0 false t501 _ A12.out).mono ?_); rintro e w18 ⟨rfl, hb⟩; refine ⟨_, rfl, ?_⟩; have n0_ := Aside0.mk (blk_below (g := gb496) (o := .cells #[.int .i64 a0_0, .bool false, .int .i64 a0_2] 30 (0, 0)) q66_ hb); have n1_ := Aside0.mk (below_step q48_ hb); clear BK496; clear HB; have BK496 := n0_; have HB := n1_; clear n0_ n1_; (try clear hb); have hcz19_0 : w18.cell? ⟨gb496, 0, none⟩ = some (.int .i64 a0_0) := (blk_cell BK496.out 0).trans rfl; have hcz19_1 : w18.cell? ⟨gb496, 1, none⟩ = some (.bool false) := (blk_cell BK496.out 1).trans rfl; have hcz19_2 : w18.cell? ⟨gb496, 2, none⟩ = some (.int .i64 a0_2) := (blk_cell BK496.out 2).trans rfl; have hfz19_0 := blk_frozen BK496.out 0; have hfz19_1 := blk_frozen BK496.out 1; have hfz19_2 := blk_frozen BK496.out 2) | ((with_reducible refine gate_dst (N := 24) rfl ?_); refine Kd.R_lit (Kd.int .u8) _ 5 ?hg (N := 24) ?hd (xs := ([(a0_0) % 256, (a0_2) % 256] : List Int)) (inner := [.int .u8 ((a0_0) % 256), .int .u8 ((a0_2) % 256)]) (ok := fun _ => True) (okp := fun _ => True) ?hr ?hp (fun _ hk => hk) trivial (Below.refl _ _) (Nat.le_refl _) (by simp) ?_; (case hd => rfl); (case hg => rfl); (case hr => exact q114_); (case hp => exact (Reps.one (show Kd.M (Kd.int .u8) _ _ _ ((a0_0) % 256) [.int .u8 ((a0_0) % 256)] from rfl) (Reps.one (show Kd.M (Kd.int .u8) _ _ _ ((a0_2) % 256) [.int .u8 ((a0_2) % 256)] from rfl) (Reps.none _ _)))); intro v503 w20 ho21 hb hg_ hnew_; clear hg_ hnew_; (first | rw [← Ny502.out] at ho21 | (simp only [Int.reduceToNat] at ho21; rw [← Ny502.out] at ho21)); have n0_ := Aside0.mk (Kd.R_lower ho21 (below_size q48_)); have n1_ := Aside0.mk (blk_below (g := gb496) (o := .cells #[.int .i64 a0_0, .bool false, .int .i64 a0_2] 30 (0, 0)) q66_ hb); have n2_ := Aside0.mk (below_step q48_ hb); clear BK496; clear HB; have HO504 := n0_; have BK496 := n1_; have HB := n2_; clear n0_ n1_ n2_; clear hb ho21; have hcv22 := own_string (P := Tryz.prog) Tryz.underlying22 Tryz.underlying5 Tryz.underlying9 (Kd.own_of_R HO504.out); have hcvq22 := fun m_ : Nat => own_string (P := Tryz.prog) Tryz.underlying22 Tryz.underlying5 Tryz.underlying9 (Kd.own_of_R (Kd.R_drewN HO504.out m_))))
    go_ret
    exact ⟨q59_, q48_⟩
   ·rw [if_neg c13] at H
    have c13b0 : (t501 == 2) = false := beq_eq_false_iff_ne.mpr c13
    have c13b1 : (t501 != 2) = true := bne_iff_ne.mpr c13
    by_cases c23 : t501 = 3
    ·rw [if_pos c23] at H
     have c23b0 : (t501 == 3) = true := beq_iff_eq.mpr c23
     have c23b1 : (t501 != 3) = false := bne_eq_false_iff_eq.mpr c23
     clear c23
     obtain ⟨y505, hy505⟩ : ∃ y_ : List Int, y_ = (([(a0_0) % 256, (a0_2) % 256, (a0_2 / 256) % 256] : List Int)) := ⟨_, rfl⟩
     replace H : (some (strOfNums y505)) = some r := by first | (rw [hy505]; with_reducible exact H) | (have H2_ := (Option.bind_some _ _).symm.trans H; rw [hy505]; with_reducible exact H2_) | (have H2_ := (Option.bind_some _ _).symm.trans H; with_reducible exact H2_) | with_reducible exact H | (rw [hy505]; exact H) | exact H
     have Ny505 := Aside0.mk hy505
     clear hy505
     obtain rfl := Option.some.inj H
     go_enter Tryz.func19, Tryz.ntmps19
     go_wp2_with (first | ((with_reducible refine gate_dst (N := 1) rfl ?_); refine box_event ?hg (N := 1) ?hd (cs := #[.int .i64 a0_0, .bool false, .int .i64 a0_2]) (t := 30) ?hr ?_; (case hd => rfl); (case hg => rfl); (case hr => exact q114_); intro gb496 hg w24 hbox hb; have n0_ := Aside0.mk (below_step q57_ hb); have n1_ := Aside0.mk (hbox); have n2_ := Aside0.mk ((q43_ : w.heap.size ≤ gb496)); have n3_ := Aside0.mk ((q43_ : w.heap.size ≤ gb496)); clear HB; have HB := n0_; have BK496 := n1_; have GW496 := n2_; have GE496 := n3_; clear n0_ n1_ n2_ n3_; clear hb hbox hg; have hcz25_0 : w24.cell? ⟨gb496, 0, none⟩ = some (.int .i64 a0_0) := (blk_cell BK496.out 0).trans rfl; have hcz25_1 : w24.cell? ⟨gb496, 1, none⟩ = some (.bool false) := (blk_cell BK496.out 1).trans rfl; have hcz25_2 : w24.cell? ⟨gb496, 2, none⟩ = some (.int .i64 a0_2) := (blk_cell BK496.out 2).trans rfl; have hfz25_0 := blk_frozen BK496.out 0; have hfz25_1 := blk_frozen BK496.out 1; have hfz25_2 := blk_frozen BK496.out 2) | ((with_reducible refine gate_callee (f := 21) rfl ?_); refine goesL_ (some 4) rfl rfl Tryz.func21 (by kernel_rfl) rfl #[.agg #[.int .i64 a0_0, .bool false, .int .i64 a0_2]] rfl q56_ ?_; (with_reducible refine (spec_InsOk.calls k a0_0 false a0_2 true _ A2.out).mono ?_); rintro e w26 ⟨rfl, hb⟩; refine ⟨_, rfl, ?_⟩; have n0_ := Aside0.mk (blk_below (g := gb496) (o := .cells #[.int .i64 a0_0, .bool false, .int .i64 a0_2] 30 (0, 0)) q66_ hb); have n1_ := Aside0.mk (below_step q48_ hb); clear BK496; clear HB; have BK496 := n0_; have HB := n1_; clear n0_ n1_; (try clear hb); have hcz27_0 : w26.cell? ⟨gb496, 0, none⟩ = some (.int .i64 a0_0) := (blk_cell BK496.out 0).trans rfl; have hcz27_1 : w26.cell? ⟨gb496, 1, none⟩ = some (.bool false) := (blk_cell BK496.out 1).trans rfl; have hcz27_2 : w26.cell? ⟨gb496, 2, none⟩ = some (.int .i64 a0_2) := (blk_cell BK496.out 2).trans rfl; have hfz27_0 := blk_frozen BK496.out 0; have hfz27_1 := blk_frozen BK496.out 1; have hfz27_2 := blk_frozen BK496.out 2) | ((with_reducible refine gate_callee (f := 52) rfl ?_); refine goesL_ (some 15) rfl rfl Tryz.func52 (by kernel_rfl) rfl #[.int .i64 a0_0, .bool false] rfl q56_ ?_; (with_reducible refine (spec_l3Length.calls k a0_0 false t501 _ A12.out).mono ?_); rintro e w28 ⟨rfl, hb⟩; refine ⟨_, rfl, ?_⟩; have n0_ := Aside0.mk (blk_below (g := gb496) (o := .cells #[.int .i64 a0_0, .bool false, .int .i64 a0_2] 30 (0, 0)) q66_ hb); have n1_ := Aside0.mk (below_step q48_ hb); clear BK496; clear HB; have BK496 := n0_; have HB := n1_; clear n0_ n1_; (try clear hb); have hcz29_0 : w28.cell? ⟨gb496, 0, none⟩ = some (.int .i64 a0_0) := (blk_cell BK496.out 0).trans rfl; have hcz29_1 : w28.cell? ⟨gb496, 1, none⟩ = some (.bool false) := (blk_cell BK496.out 1).trans rfl; have hcz29_2 : w28.cell? ⟨gb496, 2, none⟩ = some (.int .i64 a0_2) := (blk_cell BK496.out 2).trans rfl; have hfz29_0 := blk_frozen BK496.out 0; have hfz29_1 := blk_frozen BK496.out 1; have hfz29_2 := blk_frozen BK496.out 2) | ((with_reducible refine gate_dst (N := 38) rfl ?_); refine Kd.R_lit (Kd.int .u8) _ 5 ?hg (N := 38) ?hd (xs := ([(a0_0) % 256, (a0_2) % 256, (a0_2 / 256) % 256] : List Int)) (inner := [.int .u8 ((a0_0) % 256), .int .u8 ((a0_2) % 256), .int .u8 ((a0_2 / 256) % 256)]) (ok := fun _ => True) (okp := fun _ => True) ?hr ?hp (fun _ hk => hk) trivial (Below.refl _ _) (Nat.le_refl _) (by simp) ?_; (case hd => rfl); (case hg => rfl); (case hr => exact q114_); (case hp => exact (Reps.one (show Kd.M (Kd.int .u8) _ _ _ ((a0_0) % 256) [.int .u8 ((a0_0) % 256)] from rfl) (Reps.one (show Kd.M (Kd.int .u8) _ _ _ ((a0_2) % 256) [.int .u8 ((a0_2) % 256)] from rfl) (Reps.one (show Kd.M (Kd.int .u8) _ _ _ ((a0_2 / 256) % 256) [.int .u8 ((a0_2 / 256) % 256)] from rfl) (Reps.none _ _))))); intro v506 w30 ho31 hb hg_ hnew_; clear hg_ hnew_; (first | rw [← Ny505.out] at ho31 | (simp only [Int.reduceToNat] at ho31; rw [← Ny505.out] at ho31)); have n0_ := Aside0.mk (Kd.R_lower ho31 (below_size q48_)); have n1_ := Aside0.mk (blk_below (g := gb496) (o := .cells #[.int .i64 a0_0, .bool false, .int .i64 a0_2] 30 (0, 0)) q66_ hb); have n2_ := Aside0.mk (below_step q48_ hb); clear BK496; clear HB; have HO507 := n0_; have BK496 := n1_; have HB := n2_; clear n0_ n1_ n2_; clear hb ho31; have hcv32 := own_string (P := Tryz.prog) Tryz.underlying22 Tryz.underlying5 Tryz.underlying9 (Kd.own_of_R HO507.out); have hcvq32 := fun m_ : Nat => own_string (P := Tryz.prog) Tryz.underlying22 Tryz.underlying5 Tryz.underlying9 (Kd.own_of_R (Kd.R_drewN HO507.out m_))))
     go_ret
     exact ⟨q59_, q48_⟩
    ·rw [if_neg c23] at H
     have c23b0 : (t501 == 3) = false := beq_eq_false_iff_ne.mpr c23
     have c23b1 : (t501 != 3) = true := bne_iff_ne.mpr c23
     obtain ⟨y508, hy508⟩ : ∃ y_ : List Int, y_ = (([(a0_0) % 256] : List Int)) := ⟨_, rfl⟩
     replace H : (some (strOfNums y508)) = some r := by first | (rw [hy508]; with_reducible exact H) | (have H2_ := (Option.bind_some _ _).symm.trans H; rw [hy508]; with_reducible exact H2_) | (have H2_ := (Option.bind_some _ _).symm.trans H; with_reducible exact H2_) | with_reducible exact H | (rw [hy508]; exact H) | exact H
     have Ny508 := Aside0.mk hy508
     clear hy508
     obtain rfl := Option.some.inj H
     go_enter Tryz.func19, Tryz.ntmps19
     go_wp2_with (first | ((with_reducible refine gate_dst (N := 1) rfl ?_); refine box_event ?hg (N := 1) ?hd (cs := #[.int .i64 a0_0, .bool false, .int .i64 a0_2]) (t := 30) ?hr ?_; (case hd => rfl); (case hg => rfl); (case hr => exact q114_); intro gb496 hg w33 hbox hb; have n0_ := Aside0.mk (below_step q57_ hb); have n1_ := Aside0.mk (hbox); have n2_ := Aside0.mk ((q43_ : w.heap.size ≤ gb496)); have n3_ := Aside0.mk ((q43_ : w.heap.size ≤ gb496)); clear HB; have HB := n0_; have BK496 := n1_; have GW496 := n2_; have GE496 := n3_; clear n0_ n1_ n2_ n3_; clear hb hbox hg; have hcz34_0 : w33.cell? ⟨gb496, 0, none⟩ = some (.int .i64 a0_0) := (blk_cell BK496.out 0).trans rfl; have hcz34_1 : w33.cell? ⟨gb496, 1, none⟩ = some (.bool false) := (blk_cell BK496.out 1).trans rfl; have hcz34_2 : w33.cell? ⟨gb496, 2, none⟩ = some (.int .i64 a0_2) := (blk_cell BK496.out 2).trans rfl; have hfz34_0 := blk_frozen BK496.out 0; have hfz34_1 := blk_frozen BK496.out 1; have hfz34_2 := blk_frozen BK496.out 2) | ((with_reducible refine gate_callee (f := 21) rfl ?_); refine goesL_ (some 4) rfl rfl Tryz.func21 (by kernel_rfl) rfl #[.agg #[.int .i64 a0_0, .bool false, .int .i64 a0_2]] rfl q56_ ?_; (with_reducible refine (spec_InsOk.calls k a0_0 false a0_2 true _ A2.out).mono ?_); rintro e w35 ⟨rfl, hb⟩; refine ⟨_, rfl, ?_⟩; have n0_ := Aside0.mk (blk_below (g := gb496) (o := .cells #[.int .i64 a0_0, .bool false, .int .i64 a0_2] 30 (0, 0)) q66_ hb); have n1_ := Aside0.mk (below_step q48_ hb); clear BK496; clear HB; have BK496 := n0_; have HB := n1_; clear n0_ n1_; (try clear hb); have hcz36_0 : w35.cell? ⟨gb496, 0, none⟩ = some (.int .i64 a0_0) := (blk_cell BK496.out 0).trans rfl; have hcz36_1 : w35.cell? ⟨gb496, 1, none⟩ = some (.bool false) := (blk_cell BK496.out 1).trans rfl; have hcz36_2 : w35.cell? ⟨gb496, 2, none⟩ = some (.int .i64 a0_2) := (blk_cell BK496.out 2).trans rfl; have hfz36_0 := blk_frozen BK496.out 0; have hfz36_1 := blk_frozen BK496.out 1; have hfz36_2 := blk_frozen BK496.out 2) | ((with_reducible refine gate_callee (f := 52) rfl ?_); refine goesL_ (some 15) rfl rfl Tryz.func52 (by kernel_rfl) rfl #[.int .i64 a0_0, .bool false] rfl q56_ ?_; (with_reducible refine (spec_l3Length.calls k a0_0 false t501 _ A12.out).mono ?_); rintro e w37 ⟨rfl, hb⟩; refine ⟨_, rfl, ?_⟩; have n0_ := Aside0.mk (blk_below (g := gb496) (o := .cells #[.int .i64 a0_0, .bool false, .int .i64 a0_2] 30 (0, 0)) q66_ hb); have n1_ := Aside0.mk (below_step q48_ hb); clear BK496; clear HB; have BK496 := n0_; have HB := n1_; clear n0_ n1_; (try clear hb); have hcz38_0 : w37.cell? ⟨gb496, 0, none⟩ = some (.int .i64 a0_0) := (blk_cell BK496.out 0).trans rfl; have hcz38_1 : w37.cell? ⟨gb496, 1, none⟩ = some (.bool false) := (blk_cell BK496.out 1).trans rfl; have hcz38_2 : w37.cell? ⟨gb496, 2, none⟩ = some (.int .i64 a0_2) := (blk_cell BK496.out 2).trans rfl; have hfz38_0 := blk_frozen BK496.out 0; have hfz38_1 := blk_frozen BK496.out 1; have hfz38_2 := blk_frozen BK496.out 2) | ((with_reducible refine gate_dst (N := 43) rfl ?_); refine Kd.R_lit (Kd.int .u8) _ 5 ?hg (N := 43) ?hd (xs := ([(a0_0) % 256] : List Int)) (inner := [.int .u8 ((a0_0) % 256)]) (ok := fun _ => True) (okp := fun _ => True) ?hr ?hp (fun _ hk => hk) trivial (Below.refl _ _) (Nat.le_refl _) (by simp) ?_; (case hd => rfl); (case hg => rfl); (case hr => exact q114_); (case hp => exact (Reps.one (show Kd.M (Kd.int .u8) _ _ _ ((a0_0) % 256) [.int .u8 ((a0_0) % 256)] from rfl) (Reps.none _ _))); intro v509 w39 ho40 hb hg_ hnew_; clear hg_ hnew_; (first | rw [← Ny508.out] at ho40 | (simp only [Int.reduceToNat] at ho40; rw [← Ny508.out] at ho40)); have n0_ := Aside0.mk (Kd.R_lower ho40 (below_size q48_)); have n1_ := Aside0.mk (blk_below (g := gb496) (o := .cells #[.int .i64 a0_0, .bool false, .int .i64 a0_2] 30 (0, 0)) q66_ hb); have n2_ := Aside0.mk (below_step q48_ hb); clear BK496; clear HB; have HO510 := n0_; have BK496 := n1_; have HB := n2_; clear n0_ n1_ n2_; clear hb ho40; have hcv41 := own_string (P := Tryz.prog) Tryz.underlying22 Tryz.underlying5 Tryz.underlying9 (Kd.own_of_R HO510.out); have hcvq41 := fun m_ : Nat => own_string (P := Tryz.prog) Tryz.underlying22 Tryz.underlying5 Tryz.underlying9 (Kd.own_of_R (Kd.R_drewN HO510.out m_))))
     go_ret
     exact ⟨q59_, q48_⟩
 ·replace c3 := Bool.eq_false_iff.mpr c3
  subst c3
  replace H : (some (⟨#[]⟩ : ByteArray)) = some r := by rw [if_neg (show ¬ (false = true) by decide)] at H; exact H
  obtain rfl := Option.some.inj H
  go_enter Tryz.func19, Tryz.ntmps19
  go_wp2_with (first | ((with_reducible refine gate_dst (N := 1) rfl ?_); refine box_event ?hg (N := 1) ?hd (cs := #[.int .i64 a0_0, .bool a0_1, .int .i64 a0_2]) (t := 30) ?hr ?_; (case hd => rfl); (case hg => rfl); (case hr => exact q114_); intro gb496 hg w42 hbox hb; have n0_ := Aside0.mk (below_step q57_ hb); have n1_ := Aside0.mk (hbox); have n2_ := Aside0.mk ((q43_ : w.heap.size ≤ gb496)); have n3_ := Aside0.mk ((q43_ : w.heap.size ≤ gb496)); clear HB; have HB := n0_; have BK496 := n1_; have GW496 := n2_; have GE496 := n3_; clear n0_ n1_ n2_ n3_; clear hb hbox hg; have hcz43_0 : w42.cell? ⟨gb496, 0, none⟩ = some (.int .i64 a0_0) := (blk_cell BK496.out 0).trans rfl; have hcz43_1 : w42.cell? ⟨gb496, 1, none⟩ = some (.bool a0_1) := (blk_cell BK496.out 1).trans rfl; have hcz43_2 : w42.cell? ⟨gb496, 2, none⟩ = some (.int .i64 a0_2) := (blk_cell BK496.out 2).trans rfl; have hfz43_0 := blk_frozen BK496.out 0; have hfz43_1 := blk_frozen BK496.out 1; have hfz43_2 := blk_frozen BK496.out 2) | ((with_reducible refine gate_callee (f := 21) rfl ?_); refine goesL_ (some 4) rfl rfl Tryz.func21 (by kernel_rfl) rfl #[.agg #[.int .i64 a0_0, .bool a0_1, .int .i64 a0_2]] rfl q56_ ?_; (with_reducible refine (spec_InsOk.calls k a0_0 a0_1 a0_2 false _ A2.out).mono ?_); rintro e w44 ⟨rfl, hb⟩; refine ⟨_, rfl, ?_⟩; have n0_ := Aside0.mk (blk_below (g := gb496) (o := .cells #[.int .i64 a0_0, .bool a0_1, .int .i64 a0_2] 30 (0, 0)) q66_ hb); have n1_ := Aside0.mk (below_step q48_ hb); clear BK496; clear HB; have BK496 := n0_; have HB := n1_; clear n0_ n1_; (try clear hb)))
  go_ret
  exact ⟨q59_, q48_⟩
mutual
def impl_ReadIns.j0 : Nat → ByteArray → Int → Bool → Int → Bool → Int → Option (Int × Bool × Int × Int)
 | 0, _, _, _, _, _, _ => none
 | k + 1, x0, x7, x44, x514000, x514001, x514002 => if x44 = true then (some (0, false, 0, 0)) else (impl_ReadIns.l0 k x0 x7 (wrap64 (x7 - 1)) x514000 x514001 x514002)
def impl_ReadIns.l0 : Nat → ByteArray → Int → Int → Int → Bool → Int → Option (Int × Bool × Int × Int)
 | 0, _, _, _, _, _, _ => none
 | k + 1, x0, x7, x8, x514000, x514001, x514002 => if x8 > 0 then (if 0 ≤ x8 then (if x8 < (x0.size : Int) then (impl_ReadIns.l0 k x0 x7 (wrap64 (x8 - 1)) x514000 x514001 (Go.bits .or .i64 (wrap64 (x514002 * 256)) (wrap64 (bt x0 x8)))) else (none)) else (none)) else (some (x514000, x514001, x514002, x7))
end
def impl_ReadIns.f (k : Nat) (a0 : ByteArray) (a1 : Int) : Option (Int × Bool × Int × Int) := (impl_within.f a1 0 (wrap64 ((a0.size : Int) - 1))).bind fun t512 => (if t512 = true then (if 0 ≤ a1 then (if a1 ≤ (a0.size : Int) then (if 0 < ((a0.extract (a1 : Int).toNat a0.size).size : Int) then (if (bt (a0.extract (a1 : Int).toNat a0.size) 0) = 203 then (if ((a0.extract (a1 : Int).toNat a0.size).size : Int) < 2 then (some (0, false, 0, 0)) else (if 1 < ((a0.extract (a1 : Int).toNat a0.size).size : Int) then (some (wrap64 (bt (a0.extract (a1 : Int).toNat a0.size) 1), true, 0, 2)) else (none))) else ((impl_LengthOf.f k (wrap64 (bt (a0.extract (a1 : Int).toNat a0.size) 0)) false).bind fun t514 => (if t514 = 0 then (impl_ReadIns.j0 k (a0.extract (a1 : Int).toNat a0.size) t514 true (wrap64 (bt (a0.extract (a1 : Int).toNat a0.size) 0)) false 0) else (impl_ReadIns.j0 k (a0.extract (a1 : Int).toNat a0.size) t514 (decide (((a0.extract (a1 : Int).toNat a0.size).size : Int) < t514)) (wrap64 (bt (a0.extract (a1 : Int).toNat a0.size) 0)) false 0)))) else (none)) else (none)) else (none)) else (some (0, false, 0, 0)))
theorem impl_ReadIns.mono_l : ∀ k, (∀ y0 y1 y2 y3 y4 y5, LeO (impl_ReadIns.j0 k y0 y1 y2 y3 y4 y5) (impl_ReadIns.j0 (k + 1) y0 y1 y2 y3 y4 y5)) ∧ (∀ y0 y1 y2 y3 y4 y5, LeO (impl_ReadIns.l0 k y0 y1 y2 y3 y4 y5) (impl_ReadIns.l0 (k + 1) y0 y1 y2 y3 y4 y5))
 | 0 => ⟨fun _ _ _ _ _ _ r h => by simp [impl_ReadIns.j0] at h, fun _ _ _ _ _ _ r h => by simp [impl_ReadIns.l0] at h⟩
 | k + 1 => by
  obtain ⟨ih0, ih1⟩ := impl_ReadIns.mono_l k
  refine ⟨?_, ?_⟩
  ·intro y0 y1 y2 y3 y4 y5
   unfold impl_ReadIns.j0
   repeat' first
   | (with_reducible first | exact ih0 _ _ _ _ _ _ | exact ih1 _ _ _ _ _ _ | exact impl_LengthOf.mono _ _ _ | exact LeO.refl _ | exact LeO.none _ | refine LeO.ite ?_ ?_ | refine LeO.bind ?_ (fun _ => ?_))
   | exact ih0 _ _ _ _ _ _
   | exact ih1 _ _ _ _ _ _
   | exact impl_LengthOf.mono _ _ _
   | exact LeO.none _
   | refine LeO.ite ?_ ?_
   | refine LeO.bind ?_ (fun _ => ?_)
  ·intro y0 y1 y2 y3 y4 y5
   unfold impl_ReadIns.l0
   repeat' first
   | (with_reducible first | exact ih0 _ _ _ _ _ _ | exact ih1 _ _ _ _ _ _ | exact impl_LengthOf.mono _ _ _ | exact LeO.refl _ | exact LeO.none _ | refine LeO.ite ?_ ?_ | refine LeO.bind ?_ (fun _ => ?_))
   | exact ih0 _ _ _ _ _ _
   | exact ih1 _ _ _ _ _ _
   | exact impl_LengthOf.mono _ _ _
   | exact LeO.none _
   | refine LeO.ite ?_ ?_
   | refine LeO.bind ?_ (fun _ => ?_)
theorem impl_ReadIns.mono : ∀ a0 a1 k, LeO (impl_ReadIns.f k a0 a1) (impl_ReadIns.f (k + 1) a0 a1) := by
 intro a0 a1 k
 obtain ⟨ih0, ih1⟩ := impl_ReadIns.mono_l k
 unfold impl_ReadIns.f
 repeat' first
   | (with_reducible first | exact ih0 _ _ _ _ _ _ | exact ih1 _ _ _ _ _ _ | exact impl_LengthOf.mono _ _ _ | exact LeO.refl _ | exact LeO.none _ | refine LeO.ite ?_ ?_ | refine LeO.bind ?_ (fun _ => ?_))
   | exact ih0 _ _ _ _ _ _
   | exact ih1 _ _ _ _ _ _
   | exact impl_LengthOf.mono _ _ _
   | exact LeO.none _
   | refine LeO.ite ?_ ?_
   | refine LeO.bind ?_ (fun _ => ?_)
def impl_ReadIns.T15 : Bool × List (List Nat × List Nat) := (true, [([], []), ([0], [0]), ([1], [1]), ([], []), ([], []), ([3, 4], [3, 4]), ([5], [5]), ([2, 6], [2, 6]), ([0, 1, 2, 3, 4, 5, 6, 7], []), ([8, 7, 0, 1, 2, 3, 4, 5, 6, 7], [7, 8])])
def impl_ReadIns.B15 : List Nat := [0, 1, 3, 0, 0, 24, 56, 127, 255, 511]
theorem impl_ReadIns.tab15 : rtab .any (opsOf Tryz.f22 15) = impl_ReadIns.T15 := by kernel_rfl
theorem impl_ReadIns.bits15 : waitsOk impl_ReadIns.T15.2 impl_ReadIns.B15 = true := by kernel_rfl
theorem impl_ReadIns.calls (k : Nat) (a0 : ByteArray) (a1 : Int) (r1 : Int) (r2 : Bool) (r3 : Int) (r4 : Int) (w : World) (h : impl_ReadIns.f k a0 a1 = some (r1, r2, r3, r4)) (hG : Go.Proofs.YtodlnnoekccmmaaGreatDoor.LibW.GL w := by first | exact hG | exact hG.below q6_ | exact hG.drewN _) :
  Calls Tryz.prog 22 #[.string a0, .int .i64 a1] w fun e w' => e = .returned (.tuple #[.agg #[.int .i64 r1, .bool r2, .int .i64 r3], .int .i64 r4]) ∧ Below w.heap.size w w' := by
 have hu30 := Tryz.underlying30
 have HB := Aside0.mk (Below.refl w.heap.size w)
 have H : ((impl_within.f a1 0 (wrap64 ((a0.size : Int) - 1))).bind fun t512 => (if t512 = true then (if 0 ≤ a1 then (if a1 ≤ (a0.size : Int) then (if 0 < ((a0.extract (a1 : Int).toNat a0.size).size : Int) then (if (bt (a0.extract (a1 : Int).toNat a0.size) 0) = 203 then (if ((a0.extract (a1 : Int).toNat a0.size).size : Int) < 2 then (some (0, false, 0, 0)) else (if 1 < ((a0.extract (a1 : Int).toNat a0.size).size : Int) then (some (wrap64 (bt (a0.extract (a1 : Int).toNat a0.size) 1), true, 0, 2)) else (none))) else ((impl_LengthOf.f k (wrap64 (bt (a0.extract (a1 : Int).toNat a0.size) 0)) false).bind fun t514 => (if t514 = 0 then (impl_ReadIns.j0 k (a0.extract (a1 : Int).toNat a0.size) t514 true (wrap64 (bt (a0.extract (a1 : Int).toNat a0.size) 0)) false 0) else (impl_ReadIns.j0 k (a0.extract (a1 : Int).toNat a0.size) t514 (decide (((a0.extract (a1 : Int).toNat a0.size).size : Int) < t514)) (wrap64 (bt (a0.extract (a1 : Int).toNat a0.size) 0)) false 0)))) else (none)) else (none)) else (none)) else (some (0, false, 0, 0)))) = some (r1, r2, r3, r4) := h
 clear h
 replace H := Option.bind_eq_some_iff.mp H
 obtain ⟨t512, A30, H⟩ := H
 have A3 := Aside0.mk A30
 clear A30
 by_cases c4 : t512 = true
 ·subst c4
  replace H : (if 0 ≤ a1 then (if a1 ≤ (a0.size : Int) then (if 0 < ((a0.extract (a1 : Int).toNat a0.size).size : Int) then (if (bt (a0.extract (a1 : Int).toNat a0.size) 0) = 203 then (if ((a0.extract (a1 : Int).toNat a0.size).size : Int) < 2 then (some (0, false, 0, 0)) else (if 1 < ((a0.extract (a1 : Int).toNat a0.size).size : Int) then (some (wrap64 (bt (a0.extract (a1 : Int).toNat a0.size) 1), true, 0, 2)) else (none))) else ((impl_LengthOf.f k (wrap64 (bt (a0.extract (a1 : Int).toNat a0.size) 0)) false).bind fun t514 => (if t514 = 0 then (impl_ReadIns.j0 k (a0.extract (a1 : Int).toNat a0.size) t514 true (wrap64 (bt (a0.extract (a1 : Int).toNat a0.size) 0)) false 0) else (impl_ReadIns.j0 k (a0.extract (a1 : Int).toNat a0.size) t514 (decide (((a0.extract (a1 : Int).toNat a0.size).size : Int) < t514)) (wrap64 (bt (a0.extract (a1 : Int).toNat a0.size) 0)) false 0)))) else (none)) else (none)) else (none)) = some (r1, r2, r3, r4) := by rw [if_pos rfl] at H; exact H
  by_cases c5 : 0 ≤ a1
  ·rw [if_pos c5] at H
   have c5b0 := eq_true c5
   have c5b1 : decide (0 ≤ a1) = true := decide_eq_true c5
   clear c5
   by_cases c6 : a1 ≤ (a0.size : Int)
   ·rw [if_pos c6] at H
    have c6b0 := eq_true c6
    have c6b1 : decide (a1 ≤ (a0.size : Int)) = true := decide_eq_true c6
    clear c6
    by_cases c7 : 0 < ((a0.extract (a1 : Int).toNat a0.size).size : Int)
    ·rw [if_pos c7] at H
     have c7b0 : decide (0 < ((a0.extract (a1 : Int).toNat a0.size).size : Int)) = true := decide_eq_true c7
     (try (have c7b0e := c7b0; simp only [ByteArray.size_append, ByteArray.size_extract, Nat.min_self, Nat.sub_zero] at c7b0e))
     (try (first | (have c7b0p := eq_true (of_decide_eq_true c7b0e)) | (have c7b0p := eq_false (of_decide_eq_false c7b0e))))
     have c7b1 : decide (0 < (a0.extract (a1 : Int).toNat a0.size).size) = true := decide_eq_true (by omega)
     (try (have c7b1e := c7b1; simp only [ByteArray.size_append, ByteArray.size_extract, Nat.min_self, Nat.sub_zero] at c7b1e))
     (try (first | (have c7b1p := eq_true (of_decide_eq_true c7b1e)) | (have c7b1p := eq_false (of_decide_eq_false c7b1e))))
     clear c7
     by_cases c9 : (bt (a0.extract (a1 : Int).toNat a0.size) 0) = 203
     ·rw [if_pos c9] at H
      have c9b0 : ((bt (a0.extract (a1 : Int).toNat a0.size) 0) == 203) = true := beq_iff_eq.mpr c9
      have c9b1 : ((bt (a0.extract (a1 : Int).toNat a0.size) 0) != 203) = false := bne_eq_false_iff_eq.mpr c9
      clear c9
      by_cases c10 : ((a0.extract (a1 : Int).toNat a0.size).size : Int) < 2
      ·rw [if_pos c10] at H
       have c10b0 : decide (((a0.extract (a1 : Int).toNat a0.size).size : Int) < 2) = true := decide_eq_true c10
       (try (have c10b0e := c10b0; simp only [ByteArray.size_append, ByteArray.size_extract, Nat.min_self, Nat.sub_zero] at c10b0e))
       (try (first | (have c10b0p := eq_true (of_decide_eq_true c10b0e)) | (have c10b0p := eq_false (of_decide_eq_false c10b0e))))
       have c10b1 : decide ((a0.extract (a1 : Int).toNat a0.size).size < 2) = true := decide_eq_true (by omega)
       (try (have c10b1e := c10b1; simp only [ByteArray.size_append, ByteArray.size_extract, Nat.min_self, Nat.sub_zero] at c10b1e))
       (try (first | (have c10b1p := eq_true (of_decide_eq_true c10b1e)) | (have c10b1p := eq_false (of_decide_eq_false c10b1e))))
       clear c10
       simp only [Option.some.injEq, Prod.mk.injEq] at H
       obtain ⟨rfl, rfl, rfl, rfl⟩ := H
       go_enter Tryz.func22, Tryz.ntmps22
       go_wp2_with (first | ((with_reducible refine gate_dst (N := 4) rfl ?_); (try (refine gate_guard (by rfl) ?_; dsimp only)); refine box_event ?hg (N := 4) ?hd (cs := #[.int .i64 0, .bool false, .int .i64 0]) (t := 30) ?hr ?_; (case hd => rfl); (case hg => rfl); (case hr => exact q114_); intro gb511 hg w11 hbox hb; have n0_ := Aside0.mk (below_step q57_ hb); have n1_ := Aside0.mk (hbox); have n2_ := Aside0.mk ((q43_ : w.heap.size ≤ gb511)); have n3_ := Aside0.mk ((q43_ : w.heap.size ≤ gb511)); clear HB; have HB := n0_; have BK511 := n1_; have GW511 := n2_; have GE511 := n3_; clear n0_ n1_ n2_ n3_; clear hb hbox hg) | ((with_reducible refine gate_callee (f := 61) rfl ?_); refine goesL_ (some 13) rfl rfl Tryz.func61 (by kernel_rfl) rfl #[.int .i64 a1, .int .i64 0, .int .i64 (wrap64 ((a0.size : Int) - 1))] rfl q9_ ?_; (with_reducible refine (impl_within.calls a1 0 (wrap64 ((a0.size : Int) - 1)) true _ A3.out).mono ?_); rintro e w' ⟨rfl, ⟨nd, rfl⟩⟩; refine ⟨_, rfl, ?_⟩; (try (rw [drewN_self w11]; generalize hq_ : World.drewN w11 _ = w11; have n0_ : Aside0 (w11.heap[gb511]? = some (.cells #[.int .i64 0, .bool false, .int .i64 0] 30 (0, 0))) := ⟨q55_⟩; have n1_ : Aside0 (Below w.heap.size w w11) := ⟨q37_⟩; clear BK511 HB hq_; have BK511 := n0_; have HB := n1_; clear n0_ n1_)); have p8 : 0 ≤ (0 : Int) := (by omega); have q8 : 0 < (a0.extract (a1 : Int).toNat a0.size).size := (by have : (0 : Int) < ((a0.extract (a1 : Int).toNat a0.size).size : Int) := of_decide_eq_true q87_; omega); have hx8 : ∀ h : 0 < (a0.extract (a1 : Int).toNat a0.size).size, (((a0.extract (a1 : Int).toNat a0.size)[0]'h).toNat : Int) = bt (a0.extract (a1 : Int).toNat a0.size) 0 := bt_at (a0.extract (a1 : Int).toNat a0.size) 0; clear p8; have qi8 : (0 < ((a0.extract (a1 : Int).toNat a0.size).size : Int)) = True := eq_true (of_decide_eq_true q87_); replace q8 := eq_true q8; have hcz12_0 : w11.cell? ⟨gb511, 0, none⟩ = some (.int .i64 0) := (blk_cell BK511.out 0).trans rfl; have hcz12_1 : w11.cell? ⟨gb511, 1, none⟩ = some (.bool false) := (blk_cell BK511.out 1).trans rfl; have hcz12_2 : w11.cell? ⟨gb511, 2, none⟩ = some (.int .i64 0) := (blk_cell BK511.out 2).trans rfl; have hfz12_0 := blk_frozen BK511.out 0; have hfz12_1 := blk_frozen BK511.out 1; have hfz12_2 := blk_frozen BK511.out 2))
       refine bodyPost_ret (results_ct rfl _ _ gb511 30 #[.int .i64 0, .bool false, .int .i64 0] (0, 0) _ rfl q2_ Tryz.underlying30 rfl (by kernel_rfl)) rfl ?_
       exact ⟨q59_, q49_⟩
      ·rw [if_neg c10] at H
       have c10b0 : decide (((a0.extract (a1 : Int).toNat a0.size).size : Int) < 2) = false := decide_eq_false c10
       (try (have c10b0e := c10b0; simp only [ByteArray.size_append, ByteArray.size_extract, Nat.min_self, Nat.sub_zero] at c10b0e))
       (try (first | (have c10b0p := eq_true (of_decide_eq_true c10b0e)) | (have c10b0p := eq_false (of_decide_eq_false c10b0e))))
       have c10b1 : decide ((a0.extract (a1 : Int).toNat a0.size).size < 2) = false := decide_eq_false (by omega)
       (try (have c10b1e := c10b1; simp only [ByteArray.size_append, ByteArray.size_extract, Nat.min_self, Nat.sub_zero] at c10b1e))
       (try (first | (have c10b1p := eq_true (of_decide_eq_true c10b1e)) | (have c10b1p := eq_false (of_decide_eq_false c10b1e))))
       clear c10
       by_cases c13 : 1 < ((a0.extract (a1 : Int).toNat a0.size).size : Int)
       ·rw [if_pos c13] at H
        have c13b0 : decide (1 < ((a0.extract (a1 : Int).toNat a0.size).size : Int)) = true := decide_eq_true c13
        (try (have c13b0e := c13b0; simp only [ByteArray.size_append, ByteArray.size_extract, Nat.min_self, Nat.sub_zero] at c13b0e))
        (try (first | (have c13b0p := eq_true (of_decide_eq_true c13b0e)) | (have c13b0p := eq_false (of_decide_eq_false c13b0e))))
        have c13b1 : decide (1 < (a0.extract (a1 : Int).toNat a0.size).size) = true := decide_eq_true (by omega)
        (try (have c13b1e := c13b1; simp only [ByteArray.size_append, ByteArray.size_extract, Nat.min_self, Nat.sub_zero] at c13b1e))
        (try (first | (have c13b1p := eq_true (of_decide_eq_true c13b1e)) | (have c13b1p := eq_false (of_decide_eq_false c13b1e))))
        clear c13
        simp only [Option.some.injEq, Prod.mk.injEq] at H
        obtain ⟨rfl, rfl, rfl, rfl⟩ := H
        go_enter Tryz.func22, Tryz.ntmps22
        go_wp2_with (first | ((with_reducible refine gate_dst (N := 4) rfl ?_); (try (refine gate_guard (by rfl) ?_; dsimp only)); refine box_event ?hg (N := 4) ?hd (cs := #[.int .i64 0, .bool false, .int .i64 0]) (t := 30) ?hr ?_; (case hd => rfl); (case hg => rfl); (case hr => exact q114_); intro gb511 hg w15 hbox hb; have n0_ := Aside0.mk (below_step q57_ hb); have n1_ := Aside0.mk (hbox); have n2_ := Aside0.mk ((q43_ : w.heap.size ≤ gb511)); have n3_ := Aside0.mk ((q43_ : w.heap.size ≤ gb511)); clear HB; have HB := n0_; have BK511 := n1_; have GW511 := n2_; have GE511 := n3_; clear n0_ n1_ n2_ n3_; clear hb hbox hg) | ((with_reducible refine gate_callee (f := 61) rfl ?_); refine goesL_ (some 13) rfl rfl Tryz.func61 (by kernel_rfl) rfl #[.int .i64 a1, .int .i64 0, .int .i64 (wrap64 ((a0.size : Int) - 1))] rfl q9_ ?_; (with_reducible refine (impl_within.calls a1 0 (wrap64 ((a0.size : Int) - 1)) true _ A3.out).mono ?_); rintro e w' ⟨rfl, ⟨nd, rfl⟩⟩; refine ⟨_, rfl, ?_⟩; (try (rw [drewN_self w15]; generalize hq_ : World.drewN w15 _ = w15; have n0_ : Aside0 (w15.heap[gb511]? = some (.cells #[.int .i64 0, .bool false, .int .i64 0] 30 (0, 0))) := ⟨q55_⟩; have n1_ : Aside0 (Below w.heap.size w w15) := ⟨q37_⟩; clear BK511 HB hq_; have BK511 := n0_; have HB := n1_; clear n0_ n1_)); have p8 : 0 ≤ (0 : Int) := (by omega); have q8 : 0 < (a0.extract (a1 : Int).toNat a0.size).size := (by have : (0 : Int) < ((a0.extract (a1 : Int).toNat a0.size).size : Int) := of_decide_eq_true q87_; omega); have hx8 : ∀ h : 0 < (a0.extract (a1 : Int).toNat a0.size).size, (((a0.extract (a1 : Int).toNat a0.size)[0]'h).toNat : Int) = bt (a0.extract (a1 : Int).toNat a0.size) 0 := bt_at (a0.extract (a1 : Int).toNat a0.size) 0; clear p8; have qi8 : (0 < ((a0.extract (a1 : Int).toNat a0.size).size : Int)) = True := eq_true (of_decide_eq_true q87_); replace q8 := eq_true q8; have p14 : 0 ≤ (1 : Int) := (by omega); have q14 : 1 < (a0.extract (a1 : Int).toNat a0.size).size := (by have : (1 : Int) < ((a0.extract (a1 : Int).toNat a0.size).size : Int) := of_decide_eq_true q87_; omega); have hx14 : ∀ h : 1 < (a0.extract (a1 : Int).toNat a0.size).size, (((a0.extract (a1 : Int).toNat a0.size)[1]'h).toNat : Int) = bt (a0.extract (a1 : Int).toNat a0.size) 1 := bt_at (a0.extract (a1 : Int).toNat a0.size) 1; clear p14; have qi14 : (1 < ((a0.extract (a1 : Int).toNat a0.size).size : Int)) = True := eq_true (of_decide_eq_true q87_); replace q14 := eq_true q14; have hcz16_0 : w15.cell? ⟨gb511, 0, none⟩ = some (.int .i64 0) := (blk_cell BK511.out 0).trans rfl; have hcz16_1 : w15.cell? ⟨gb511, 1, none⟩ = some (.bool false) := (blk_cell BK511.out 1).trans rfl; have hcz16_2 : w15.cell? ⟨gb511, 2, none⟩ = some (.int .i64 0) := (blk_cell BK511.out 2).trans rfl; have hfz16_0 := blk_frozen BK511.out 0; have hfz16_1 := blk_frozen BK511.out 1; have hfz16_2 := blk_frozen BK511.out 2))
        refine bodyPost_ret (results_ct rfl _ _ gb511 30 #[.int .i64 (wrap64 (bt (a0.extract (a1 : Int).toNat a0.size) 1)), .bool true, .int .i64 0] (0, 0) _ rfl (by (with_reducible repeat (first | refine blk_drewN ?_ _ | refine blk_drew ?_ | refine blk_alloc ?_ _)); refine blk_put (cs := #[.int .i64 (wrap64 (bt (a0.extract (a1 : Int).toNat a0.size) 1)), .bool true, .int .i64 0]) ?_ 2 _ rfl; (with_reducible repeat (first | refine blk_drewN ?_ _ | refine blk_drew ?_ | refine blk_alloc ?_ _)); refine blk_put (cs := #[.int .i64 (wrap64 (bt (a0.extract (a1 : Int).toNat a0.size) 1)), .bool false, .int .i64 0]) ?_ 1 _ rfl; (with_reducible repeat (first | refine blk_drewN ?_ _ | refine blk_drew ?_ | refine blk_alloc ?_ _)); refine blk_put (cs := #[.int .i64 0, .bool false, .int .i64 0]) ?_ 0 _ rfl; (with_reducible repeat (first | refine blk_drewN ?_ _ | refine blk_drew ?_ | refine blk_alloc ?_ _)); exact BK511.out) Tryz.underlying30 rfl (by kernel_rfl)) rfl ?_
        exact ⟨q59_, q49_⟩
       ·rw [if_neg c13] at H
        exact absurd H (by simp)
     ·rw [if_neg c9] at H
      have c9b0 : ((bt (a0.extract (a1 : Int).toNat a0.size) 0) == 203) = false := beq_eq_false_iff_ne.mpr c9
      have c9b1 : ((bt (a0.extract (a1 : Int).toNat a0.size) 0) != 203) = true := bne_iff_ne.mpr c9
      replace H := Option.bind_eq_some_iff.mp H
      obtain ⟨t514, A180, H⟩ := H
      have A18 := Aside0.mk A180
      clear A180
      have HC19 := Aside0.mk H
      clear H
      go_enter Tryz.func22, Tryz.ntmps22
      go_upto_region 10 with (first | ((with_reducible refine gate_dst (N := 4) rfl ?_); (try (refine gate_guard (by rfl) ?_; dsimp only)); refine box_event ?hg (N := 4) ?hd (cs := #[.int .i64 0, .bool false, .int .i64 0]) (t := 30) ?hr ?_; (case hd => rfl); (case hg => rfl); (case hr => exact q114_); intro gb511 hg w20 hbox hb; have n0_ := Aside0.mk (below_step q57_ hb); have n1_ := Aside0.mk (hbox); have n2_ := Aside0.mk ((q43_ : w.heap.size ≤ gb511)); have n3_ := Aside0.mk ((q43_ : w.heap.size ≤ gb511)); clear HB; have HB := n0_; have BK511 := n1_; have GW511 := n2_; have GE511 := n3_; clear n0_ n1_ n2_ n3_; clear hb hbox hg) | ((with_reducible refine gate_callee (f := 61) rfl ?_); refine goesL_ (some 13) rfl rfl Tryz.func61 (by kernel_rfl) rfl #[.int .i64 a1, .int .i64 0, .int .i64 (wrap64 ((a0.size : Int) - 1))] rfl q9_ ?_; (with_reducible refine (impl_within.calls a1 0 (wrap64 ((a0.size : Int) - 1)) true _ A3.out).mono ?_); rintro e w' ⟨rfl, ⟨nd, rfl⟩⟩; refine ⟨_, rfl, ?_⟩; (try (rw [drewN_self w20]; generalize hq_ : World.drewN w20 _ = w20; have n0_ : Aside0 (w20.heap[gb511]? = some (.cells #[.int .i64 0, .bool false, .int .i64 0] 30 (0, 0))) := ⟨q55_⟩; have n1_ : Aside0 (Below w.heap.size w w20) := ⟨q37_⟩; clear BK511 HB hq_; have BK511 := n0_; have HB := n1_; clear n0_ n1_)); have p8 : 0 ≤ (0 : Int) := (by omega); have q8 : 0 < (a0.extract (a1 : Int).toNat a0.size).size := (by have : (0 : Int) < ((a0.extract (a1 : Int).toNat a0.size).size : Int) := of_decide_eq_true q87_; omega); have hx8 : ∀ h : 0 < (a0.extract (a1 : Int).toNat a0.size).size, (((a0.extract (a1 : Int).toNat a0.size)[0]'h).toNat : Int) = bt (a0.extract (a1 : Int).toNat a0.size) 0 := bt_at (a0.extract (a1 : Int).toNat a0.size) 0; clear p8; have qi8 : (0 < ((a0.extract (a1 : Int).toNat a0.size).size : Int)) = True := eq_true (of_decide_eq_true q87_); replace q8 := eq_true q8; have p17 : 0 ≤ (0 : Int) := (by omega); have q17 : 0 < (a0.extract (a1 : Int).toNat a0.size).size := (by have : (0 : Int) < ((a0.extract (a1 : Int).toNat a0.size).size : Int) := of_decide_eq_true q87_; omega); have hx17 : ∀ h : 0 < (a0.extract (a1 : Int).toNat a0.size).size, (((a0.extract (a1 : Int).toNat a0.size)[0]'h).toNat : Int) = bt (a0.extract (a1 : Int).toNat a0.size) 0 := bt_at (a0.extract (a1 : Int).toNat a0.size) 0; clear p17; have qi17 : (0 < ((a0.extract (a1 : Int).toNat a0.size).size : Int)) = True := eq_true (of_decide_eq_true q87_); replace q17 := eq_true q17) | ((with_reducible refine gate_dst (N := 6) rfl ?_); (try (refine gate_guard (by rfl) ?_; dsimp only)); refine box_event ?hg (N := 6) ?hd (cs := #[.int .i64 0, .bool false, .int .i64 0]) (t := 30) ?hr ?_; (case hd => rfl); (case hg => rfl); (case hr => exact q114_); intro gb513 hg w21 hbox hb; have n0_ := Aside0.mk (blk_below (g := gb511) (o := .cells #[.int .i64 0, .bool false, .int .i64 0] 30 (0, 0)) q67_ hb); have n1_ := Aside0.mk (below_step q49_ hb); have n2_ := Aside0.mk (hbox); have n3_ := Aside0.mk ((q33_ : w.heap.size ≤ gb513)); have n4_ := Aside0.mk ((q33_ : w.heap.size ≤ gb513)); have n5_ := Aside0.mk ((by rw [hg]; exact Nat.ne_of_lt (blk_lt (g := gb511) (o := .cells #[.int .i64 0, .bool false, .int .i64 0] 30 (0, 0)) q67_) : gb511 ≠ gb513)); have n6_ := Aside0.mk ((by rw [hg]; exact Nat.ne_of_gt (blk_lt (g := gb511) (o := .cells #[.int .i64 0, .bool false, .int .i64 0] 30 (0, 0)) q67_) : gb513 ≠ gb511)); clear BK511; clear HB; have BK511 := n0_; have HB := n1_; have BK513 := n2_; have GW513 := n3_; have GE513 := n4_; have NB511_513 := n5_; have NB513_511 := n6_; clear n0_ n1_ n2_ n3_ n4_ n5_ n6_; clear hb hbox hg; have hnb22 := NB513_511.out; have hnc22 := NB511_513.out; have hcz23_0 : w21.cell? ⟨gb513, 0, none⟩ = some (.int .i64 0) := (blk_cell BK513.out 0).trans rfl; have hcz23_1 : w21.cell? ⟨gb513, 1, none⟩ = some (.bool false) := (blk_cell BK513.out 1).trans rfl; have hcz23_2 : w21.cell? ⟨gb513, 2, none⟩ = some (.int .i64 0) := (blk_cell BK513.out 2).trans rfl; have hfz23_0 := blk_frozen BK513.out 0; have hfz23_1 := blk_frozen BK513.out 1; have hfz23_2 := blk_frozen BK513.out 2) | ((with_reducible refine gate_callee (f := 13) rfl ?_); refine goesL_ (some 36) rfl rfl Tryz.func13 (by kernel_rfl) rfl #[.int .i64 (wrap64 (bt (a0.extract (a1 : Int).toNat a0.size) 0)), .bool false] rfl (by (try simp only [List.map_toArray, List.map_cons, List.map_nil]); first | done | rfl | (simp only [List.length_drop, List.length_take]; rfl) | (refine Eq.trans (b := #[.int .i64 ((bt (a0.extract (a1 : Int).toNat a0.size) 0)), .bool false]) rfl ?_; simp [wrap64] <;> omega)) ?_; (with_reducible refine (impl_LengthOf.calls k (wrap64 (bt (a0.extract (a1 : Int).toNat a0.size) 0)) false t514 _ A18.out).mono ?_); rintro e w24 ⟨rfl, hb⟩; refine ⟨_, rfl, ?_⟩; have n0_ := Aside0.mk (blk_below (g := gb511) (o := .cells #[.int .i64 0, .bool false, .int .i64 0] 30 (0, 0)) (by (with_reducible repeat (first | refine blk_drewN ?_ _ | refine blk_drew ?_ | refine blk_alloc ?_ _)); refine blk_far ?_ NB511_513.out _; (with_reducible repeat (first | refine blk_drewN ?_ _ | refine blk_drew ?_ | refine blk_alloc ?_ _)); refine blk_far ?_ NB511_513.out _; (with_reducible repeat (first | refine blk_drewN ?_ _ | refine blk_drew ?_ | refine blk_alloc ?_ _)); refine blk_far ?_ NB511_513.out _; (with_reducible repeat (first | refine blk_drewN ?_ _ | refine blk_drew ?_ | refine blk_alloc ?_ _)); exact BK511.out) hb); have n1_ := Aside0.mk (blk_below (g := gb513) (o := .cells #[.int .i64 (wrap64 (bt (a0.extract (a1 : Int).toNat a0.size) 0)), .bool false, .int .i64 0] 30 (0, 0)) (by (with_reducible repeat (first | refine blk_drewN ?_ _ | refine blk_drew ?_ | refine blk_alloc ?_ _)); refine blk_put (cs := #[.int .i64 (wrap64 (bt (a0.extract (a1 : Int).toNat a0.size) 0)), .bool false, .int .i64 0]) ?_ 2 _ rfl; (with_reducible repeat (first | refine blk_drewN ?_ _ | refine blk_drew ?_ | refine blk_alloc ?_ _)); refine blk_put (cs := #[.int .i64 (wrap64 (bt (a0.extract (a1 : Int).toNat a0.size) 0)), .bool false, .int .i64 0]) ?_ 1 _ rfl; (with_reducible repeat (first | refine blk_drewN ?_ _ | refine blk_drew ?_ | refine blk_alloc ?_ _)); refine blk_put (cs := #[.int .i64 0, .bool false, .int .i64 0]) ?_ 0 _ rfl; (with_reducible repeat (first | refine blk_drewN ?_ _ | refine blk_drew ?_ | refine blk_alloc ?_ _)); exact BK513.out) hb); have n2_ := Aside0.mk (below_step q35_ hb); clear BK511; clear BK513; clear HB; have BK511 := n0_; have BK513 := n1_; have HB := n2_; clear n0_ n1_ n2_; (try clear hb)))
      (try simp only [Act.put, List.setIfInBounds_toArray, List.set_cons_zero, List.set_cons_succ])
      go_cut [44] (fun v44 wc => ∃ (kq : Nat) (x44_18 : Bool), v44 = .bool x44_18 ∧ Aside0 (impl_ReadIns.j0 kq (a0.extract (a1 : Int).toNat a0.size) t514 x44_18 (wrap64 (bt (a0.extract (a1 : Int).toNat a0.size) 0)) false 0 = some (r1, r2, r3, r4)) ∧ Aside0 (kq ≤ k) ∧ Aside0 (wc.heap[gb511]? = some (.cells #[.int .i64 0, .bool false, .int .i64 0] 30 (0, 0))) ∧ Aside0 (wc.heap[gb513]? = some (.cells #[.int .i64 (wrap64 (bt (a0.extract (a1 : Int).toNat a0.size) 0)), .bool false, .int .i64 0] 30 (0, 0))) ∧ Aside0 (Below w.heap.size w wc))
      case first =>
       have H := HC19.out
       clear HC19
       by_cases c25 : t514 = 0
       ·rw [if_pos c25] at H
        have c25b0 : (t514 == 0) = true := beq_iff_eq.mpr c25
        have c25b1 : (t514 != 0) = false := bne_eq_false_iff_eq.mpr c25
        clear c25
        (first | rw [c25b0] | (simp only [i64_w, i32_w]; rw [c25b0]) | skip)
        have H' := Aside0.mk H
        clear H
        go_wp2
        go_meet
        case rel => exact ⟨_, (true), q73_, H', ⟨q99_⟩, ⟨q67_⟩, ⟨q68_⟩, ⟨q35_⟩⟩
       ·rw [if_neg c25] at H
        have c25b0 : (t514 == 0) = false := beq_eq_false_iff_ne.mpr c25
        have c25b1 : (t514 != 0) = true := bne_iff_ne.mpr c25
        (first | rw [c25b0] | (simp only [i64_w, i32_w]; rw [c25b0]) | skip)
        have H' := Aside0.mk H
        clear H
        go_wp2
        go_meet
        case rel => exact ⟨_, (decide (((a0.extract (a1 : Int).toNat a0.size).size : Int) < t514)), q73_, H', ⟨q99_⟩, ⟨q67_⟩, ⟨q68_⟩, ⟨q35_⟩⟩
      case rest =>
       clear HC19
       try clear c1
       try clear p1
       try clear q1
       try clear hx1
       try clear qi1
       try clear c2
       try clear p2
       try clear c4
       try clear c5
       try clear c5b0
       try clear c5b1
       try clear c6
       try clear c6b0
       try clear c6b1
       try clear p6
       try clear c7
       try clear c7b0
       try clear c7b1
       try clear p8 p8
       try clear q8 q8
       try clear hx8
       try clear qi8
       try clear c9
       try clear c9b0
       try clear c9b1
       try clear c10
       try clear c10b0
       try clear c10b1
       try clear c13
       try clear c13b0
       try clear c13b1
       try clear p14 p14
       try clear q14 q14
       try clear hx14
       try clear qi14
       try clear p17 p17
       try clear q17 q17
       try clear hx17
       try clear qi17
       try clear c22
       try clear c25
       try clear c25b0
       try clear c25b1
       try clear hcz12_0 hcz12_1 hcz12_2
       try clear hcz16_0 hcz16_1 hcz16_2
       try clear hcz23_0 hcz23_1 hcz23_2
       try clear hfz12_0 hfz12_1 hfz12_2
       try clear hfz16_0 hfz16_1 hfz16_2
       try clear hfz23_0 hfz23_1 hfz23_2
       obtain ⟨kq, x44_18, rfl, HA, HJ18, BK511, BK513, HB⟩ := hcut
       cases kq with
       | zero => exact absurd HA.out (by simp [impl_ReadIns.j0])
       | succ kj18 =>
        have H := HA.out
        clear HA
        simp only [impl_ReadIns.j0] at H
        by_cases c26 : x44_18 = true
        ·subst c26
         replace H : (some (0, false, 0, 0)) = some (r1, r2, r3, r4) := by rw [if_pos rfl] at H; exact H
         simp only [Option.some.injEq, Prod.mk.injEq] at H
         obtain ⟨rfl, rfl, rfl, rfl⟩ := H
         have hnb27 := NB511_513.out
         have hnc27 := NB513_511.out
         have hcz28_0 : wc.cell? ⟨gb511, 0, none⟩ = some (.int .i64 0) := bz_ BK511 0
         have hcz28_1 : wc.cell? ⟨gb511, 1, none⟩ = some (.bool false) := bz_ BK511 1
         have hcz28_2 : wc.cell? ⟨gb511, 2, none⟩ = some (.int .i64 0) := bz_ BK511 2
         have hfz28_0 := blk_frozen BK511.out 0
         have hfz28_1 := blk_frozen BK511.out 1
         have hfz28_2 := blk_frozen BK511.out 2
         go_wp2
         refine bodyPost_ret (results_ct rfl _ _ gb511 30 #[.int .i64 0, .bool false, .int .i64 0] (0, 0) _ rfl q2_ Tryz.underlying30 rfl (by kernel_rfl)) rfl ?_
         exact ⟨q59_, q35_⟩
        ·replace c26 := Bool.eq_false_iff.mpr c26
         subst c26
         replace H : (impl_ReadIns.l0 kj18 (a0.extract (a1 : Int).toNat a0.size) t514 (wrap64 (t514 - 1)) (wrap64 (bt (a0.extract (a1 : Int).toNat a0.size) 0)) false 0) = some (r1, r2, r3, r4) := by rw [if_neg (show ¬ (false = true) by decide)] at H; exact H
         have H' := Aside0.mk H
         clear H
         go_wp2
         go_loopg [8] kj18 (fun kq v8 w' => ∃ (x8_2 : Int) (x514002_2 : Int), v8 = .int .i64 x8_2 ∧ Aside0 (impl_ReadIns.l0 kq (a0.extract (a1 : Int).toNat a0.size) t514 x8_2 (wrap64 (bt (a0.extract (a1 : Int).toNat a0.size) 0)) false x514002_2 = some (r1, r2, r3, r4)) ∧ Aside0 (kq ≤ kj18) ∧ Aside0 (w'.heap[gb511]? = some (.cells #[.int .i64 0, .bool false, .int .i64 0] 30 (0, 0))) ∧ Aside0 (w'.heap[gb513]? = some (.cells #[.int .i64 (wrap64 (bt (a0.extract (a1 : Int).toNat a0.size) 0)), .bool false, .int .i64 x514002_2] 30 (0, 0))) ∧ Aside0 (Below w.heap.size w w'))
         case atStart => exact ⟨(wrap64 (t514 - 1)), (0), q73_, H', ⟨Nat.le_refl _⟩, ⟨q67_⟩, ⟨q68_⟩, ⟨q35_⟩⟩
         case round =>
          clear H'
          try clear c1
          try clear p1 p1
          try clear q1 q1
          try clear hx1
          try clear qi1
          try clear c2
          try clear p2 p2
          try clear c4
          try clear c5
          try clear c5b0
          try clear c5b1
          try clear c6
          try clear c6b0
          try clear c6b1
          try clear p6 p6
          try clear c7
          try clear c7b0
          try clear c7b1
          try clear p8 p8
          try clear q8 q8
          try clear hx8
          try clear qi8
          try clear c9
          try clear c9b0
          try clear c9b1
          try clear c10
          try clear c10b0
          try clear c10b1
          try clear c13
          try clear c13b0
          try clear c13b1
          try clear p14 p14
          try clear q14 q14
          try clear hx14
          try clear qi14
          try clear p17 p17
          try clear q17 q17
          try clear hx17
          try clear qi17
          try clear c22
          try clear c25
          try clear c25b0
          try clear c25b1
          try clear c26
          try clear c27
          try clear hcz12_0 hcz12_1 hcz12_2
          try clear hcz16_0 hcz16_1 hcz16_2
          try clear hcz23_0 hcz23_1 hcz23_2
          try clear hcz28_0 hcz28_1 hcz28_2
          try clear hfz12_0 hfz12_1 hfz12_2
          try clear hfz16_0 hfz16_1 hfz16_2
          try clear hfz23_0 hfz23_1 hfz23_2
          try clear hfz28_0 hfz28_1 hfz28_2
          obtain ⟨x8_2, x514002_2, rfl, HA, HK2, BK511, BK513, HB⟩ := hrel
          cases gk with
          | zero => exact absurd HA.out (by simp [impl_ReadIns.l0])
          | succ k2 =>
           have H := HA.out
           clear HA
           simp only [impl_ReadIns.l0] at H
           by_cases c29 : x8_2 > 0
           ·rw [if_pos c29] at H
            have c29b0 : decide (0 < x8_2) = true := decide_eq_true c29
            clear c29
            by_cases c30 : 0 ≤ x8_2
            ·rw [if_pos c30] at H
             have c30b0 : decide (0 ≤ x8_2) = true := decide_eq_true c30
             clear c30
             by_cases c31 : x8_2 < ((a0.extract (a1 : Int).toNat a0.size).size : Int)
             ·rw [if_pos c31] at H
              have c31b0 : decide (x8_2 < ((a0.extract (a1 : Int).toNat a0.size).size : Int)) = true := decide_eq_true c31
              (try (have c31b0e := c31b0; simp only [ByteArray.size_append, ByteArray.size_extract, Nat.min_self, Nat.sub_zero] at c31b0e))
              (try (first | (have c31b0p := eq_true (of_decide_eq_true c31b0e)) | (have c31b0p := eq_false (of_decide_eq_false c31b0e))))
              clear c31
              have H' := Aside0.mk H
              clear H
              try go_wp2
              have n0_ := Aside0.mk (blk_drew BK511.out)
              have n1_ := Aside0.mk (blk_drew BK513.out)
              have n2_ := Aside0.mk (below_drew1 HB.out)
              clear BK511
              clear BK513
              clear HB
              have BK511 := n0_
              have BK513 := n1_
              have HB := n2_
              clear n0_ n1_ n2_
              have p32 : 0 ≤ (x8_2 : Int) := of_decide_eq_true q87_
              have q32 : x8_2 < ((a0.extract (a1 : Int).toNat a0.size).size : Int) := of_decide_eq_true q87_
              have hx32 := bt_at (a0.extract (a1 : Int).toNat a0.size) x8_2
              replace p32 := eq_true p32
              replace q32 := eq_true q32
              refine start_ (n := 10) (S := fun w' => w'.cell? ⟨gb513, 0, none⟩ = some (.int .i64 (wrap64 (bt (a0.extract (a1 : Int).toNat a0.size) 0))) ∧ w'.cell? ⟨gb513, 1, none⟩ = some (.bool false) ∧ w'.cell? ⟨gb513, 2, none⟩ = some (.int .i64 x514002_2)) (ds := [9]) #[false, false, false, false, false, false, false, false, false, false] (by kernel_rfl) rfl rfl ⟨(blk_cell BK513.out 0).trans rfl, (blk_cell BK513.out 1).trans rfl, (blk_cell BK513.out 2).trans rfl⟩ (fun hHeld => ?_); refine with_tabW impl_ReadIns.tab15 impl_ReadIns.bits15 (fun HT_ HW_ => ?_)
              generalize wr.drew = w33 at BK511 BK513 HB hHeld ⊢
              refine pure_ (i := 0) (N := some 52) (v := ?_) (a' := ?_) #[true, false, false, false, false, false, false, false, false, false] rfl rfl (any_of HT_.out (by kernel_rfl)) (fun _ _ _ h => h) (Or.inl ⟨by rfl, ?_⟩) ?_ ?_
              rotate_left
              ·intro w'
               go_simp
               with_reducible rfl
              rotate_left
              ·simp only [Act.put, List.setIfInBounds_toArray, List.set_cons_zero, List.set_cons_succ, i64_w, i32_w]
               rfl
              refine pure_ (i := 3) (N := some 55) (v := ?_) (a' := ?_) #[true, false, false, true, false, false, false, false, false, false] rfl rfl (any_of HT_.out (by kernel_rfl)) (fun _ _ _ h => h) (Or.inl ⟨by rfl, ?_⟩) ?_ ?_
              rotate_left
              ·intro w'
               go_simp
               with_reducible rfl
              rotate_left
              ·simp only [Act.put, List.setIfInBounds_toArray, List.set_cons_zero, List.set_cons_succ, i64_w, i32_w]
               rfl
              refine pure_ (i := 4) (N := some 56) (v := ?_) (a' := ?_) #[true, false, false, true, true, false, false, false, false, false] rfl rfl (any_of HT_.out (by kernel_rfl)) (fun _ _ _ h => h) (Or.inl ⟨by rfl, ?_⟩) ?_ ?_
              rotate_left
              ·intro w'
               go_simp
               with_reducible rfl
              rotate_left
              ·simp only [Act.put, List.setIfInBounds_toArray, List.set_cons_zero, List.set_cons_succ, i64_w, i32_w]
               rfl
              refine take_ (i := 1) (N := some 53) (v := ?_) (a' := ?_) #[true, true, false, true, true, false, false, false, false, false] rfl rfl (take_ofW HT_.out HW_.out (by kernel_rfl)) (fun _ _ _ h => h) (Or.inl ⟨by rfl, ?_⟩) hHeld ?_ ?_
              rotate_left
              ·rintro w' ⟨s0, s1, s2⟩
               go_simp
               with_reducible rfl
              rotate_left
              ·simp only [Act.put, List.setIfInBounds_toArray, List.set_cons_zero, List.set_cons_succ, i64_w, i32_w]
               rfl
              refine pure_ (i := 2) (N := some 54) (v := ?_) (a' := ?_) #[true, true, true, true, true, false, false, false, false, false] rfl rfl (any_of HT_.out (by kernel_rfl)) (fun _ _ _ h => h) (Or.inl ⟨by rfl, ?_⟩) ?_ ?_
              rotate_left
              ·intro w'
               go_simp
               with_reducible rfl
              rotate_left
              ·simp only [Act.put, List.setIfInBounds_toArray, List.set_cons_zero, List.set_cons_succ, i64_w, i32_w]
               rfl
              refine take_ (i := 5) (N := some 57) (v := ?_) (a' := ?_) #[true, true, true, true, true, true, false, false, false, false] rfl rfl (take_ofW HT_.out HW_.out (by kernel_rfl)) (fun _ _ _ h => h) (Or.inl ⟨by rfl, ?_⟩) hHeld ?_ ?_
              rotate_left
              ·rintro w' ⟨s0, s1, s2⟩
               go_simp
               with_reducible rfl
              rotate_left
              ·simp only [Act.put, List.setIfInBounds_toArray, List.set_cons_zero, List.set_cons_succ, i64_w, i32_w]
               rfl
              refine pure_ (i := 6) (N := some 58) (v := ?_) (a' := ?_) #[true, true, true, true, true, true, true, false, false, false] rfl rfl (any_of HT_.out (by kernel_rfl)) (fun _ _ _ h => h) (Or.inl ⟨by rfl, ?_⟩) ?_ ?_
              rotate_left
              ·intro w'
               go_simp
               with_reducible rfl
              rotate_left
              ·simp only [Act.put, List.setIfInBounds_toArray, List.set_cons_zero, List.set_cons_succ, i64_w, i32_w]
               rfl
              refine pure_ (i := 7) (N := some 59) (v := ?_) (a' := ?_) #[true, true, true, true, true, true, true, true, false, false] rfl rfl (any_of HT_.out (by kernel_rfl)) (fun _ _ _ h => h) (Or.inl ⟨by rfl, ?_⟩) ?_ ?_
              rotate_left
              ·intro w'
               go_simp
               with_reducible rfl
              rotate_left
              ·simp only [Act.put, List.setIfInBounds_toArray, List.set_cons_zero, List.set_cons_succ, i64_w, i32_w]
               rfl
              refine pure_ (i := 8) (N := some 60) (v := ?_) (a' := ?_) #[true, true, true, true, true, true, true, true, true, false] rfl rfl (any_of HT_.out (by kernel_rfl)) (fun _ _ _ h => h) (Or.inl ⟨by rfl, ?_⟩) ?_ ?_
              rotate_left
              ·intro w'
               go_simp
               with_reducible rfl
              rotate_left
              ·simp only [Act.put, List.setIfInBounds_toArray, List.set_cons_zero, List.set_cons_succ, i64_w, i32_w]
               rfl
              refine last_ (i := 9) (N := none) #[true, true, true, true, true, true, true, true, true, true] rfl rfl (one_of HT_.out (by kernel_rfl)) (by decide) (fun K hK => ?_)
              have hs34 : w33.cell? ⟨gb513, 2, none⟩ = some (.int .i64 x514002_2) := bz_ BK513 2
              have hfs34 := blk_frozen BK513.out 2
              have hns34_0 := NB511_513.out
              have hms34_0 := NB513_511.out
              refine skip_ (w1 := ?_) (by rfl) rfl ?_ ?_
              rotate_left
              ·go_simp
               rfl
              refine hK.out _ _ ?_
              clear hK K
              refine done_ (done_of HT_.out (by kernel_rfl)) ?_
              try go_wp2
              go_roundg k2
              case measure => have := HJ18.out; have := HK2.out; omega
              case rel => exact ⟨(wrap64 (x8_2 - 1)), (Go.bits .or .i64 (wrap64 (x514002_2 * 256)) (wrap64 (bt (a0.extract (a1 : Int).toNat a0.size) x8_2))), q73_, H', ⟨by have := HJ18.out; have := HK2.out; omega⟩, ⟨by (with_reducible repeat (first | refine blk_drewN ?_ _ | refine blk_drew ?_ | refine blk_alloc ?_ _)); refine blk_far ?_ NB511_513.out _; (with_reducible repeat (first | refine blk_drewN ?_ _ | refine blk_drew ?_ | refine blk_alloc ?_ _)); exact BK511.out⟩, ⟨by (with_reducible repeat (first | refine blk_drewN ?_ _ | refine blk_drew ?_ | refine blk_alloc ?_ _)); refine blk_put (cs := #[.int .i64 (wrap64 (bt (a0.extract (a1 : Int).toNat a0.size) 0)), .bool false, .int .i64 x514002_2]) ?_ 2 _ rfl; (with_reducible repeat (first | refine blk_drewN ?_ _ | refine blk_drew ?_ | refine blk_alloc ?_ _)); exact BK513.out⟩, ⟨q35_⟩⟩
             ·rw [if_neg c31] at H
              exact absurd H (by simp)
            ·rw [if_neg c30] at H
             exact absurd H (by simp)
           ·rw [if_neg c29] at H
            have c29b0 : decide (0 < x8_2) = false := decide_eq_false c29
            clear c29
            simp only [Option.some.injEq, Prod.mk.injEq] at H
            obtain ⟨rfl, rfl, rfl, rfl⟩ := H
            have hnb35 := NB513_511.out
            have hnc35 := NB511_513.out
            have hcz36_0 : wr.cell? ⟨gb513, 0, none⟩ = some (.int .i64 (wrap64 (bt (a0.extract (a1 : Int).toNat a0.size) 0))) := bz_ BK513 0
            have hcz36_1 : wr.cell? ⟨gb513, 1, none⟩ = some (.bool false) := bz_ BK513 1
            have hcz36_2 : wr.cell? ⟨gb513, 2, none⟩ = some (.int .i64 x514002_2) := bz_ BK513 2
            have hfz36_0 := blk_frozen BK513.out 0
            have hfz36_1 := blk_frozen BK513.out 1
            have hfz36_2 := blk_frozen BK513.out 2
            have hcz37_0 : wr.cell? ⟨gb511, 0, none⟩ = some (.int .i64 0) := bz_ BK511 0
            have hcz37_1 : wr.cell? ⟨gb511, 1, none⟩ = some (.bool false) := bz_ BK511 1
            have hcz37_2 : wr.cell? ⟨gb511, 2, none⟩ = some (.int .i64 0) := bz_ BK511 2
            have hfz37_0 := blk_frozen BK511.out 0
            have hfz37_1 := blk_frozen BK511.out 1
            have hfz37_2 := blk_frozen BK511.out 2
            go_wp2
            refine bodyPost_ret (results_ct rfl _ _ gb511 30 #[.int .i64 (wrap64 (bt (a0.extract (a1 : Int).toNat a0.size) 0)), .bool false, .int .i64 x514002_2] (0, 0) _ rfl (by (with_reducible repeat (first | refine blk_drewN ?_ _ | refine blk_drew ?_ | refine blk_alloc ?_ _)); refine blk_put (cs := #[.int .i64 (wrap64 (bt (a0.extract (a1 : Int).toNat a0.size) 0)), .bool false, .int .i64 0]) ?_ 2 _ rfl; (with_reducible repeat (first | refine blk_drewN ?_ _ | refine blk_drew ?_ | refine blk_alloc ?_ _)); refine blk_put (cs := #[.int .i64 (wrap64 (bt (a0.extract (a1 : Int).toNat a0.size) 0)), .bool false, .int .i64 0]) ?_ 1 _ rfl; (with_reducible repeat (first | refine blk_drewN ?_ _ | refine blk_drew ?_ | refine blk_alloc ?_ _)); refine blk_put (cs := #[.int .i64 0, .bool false, .int .i64 0]) ?_ 0 _ rfl; (with_reducible repeat (first | refine blk_drewN ?_ _ | refine blk_drew ?_ | refine blk_alloc ?_ _)); exact BK511.out) Tryz.underlying30 rfl (by kernel_rfl)) rfl ?_
            exact ⟨q59_, q35_⟩
    ·rw [if_neg c7] at H
     exact absurd H (by simp)
   ·rw [if_neg c6] at H
    exact absurd H (by simp)
  ·rw [if_neg c5] at H
   exact absurd H (by simp)
 ·replace c4 := Bool.eq_false_iff.mpr c4
  subst c4
  replace H : (some (0, false, 0, 0)) = some (r1, r2, r3, r4) := by rw [if_neg (show ¬ (false = true) by decide)] at H; exact H
  simp only [Option.some.injEq, Prod.mk.injEq] at H
  obtain ⟨rfl, rfl, rfl, rfl⟩ := H
  go_enter Tryz.func22, Tryz.ntmps22
  go_wp2_with (first | ((with_reducible refine gate_dst (N := 4) rfl ?_); (try (refine gate_guard (by rfl) ?_; dsimp only)); refine box_event ?hg (N := 4) ?hd (cs := #[.int .i64 0, .bool false, .int .i64 0]) (t := 30) ?hr ?_; (case hd => rfl); (case hg => rfl); (case hr => exact q114_); intro gb511 hg w38 hbox hb; have n0_ := Aside0.mk (below_step q57_ hb); have n1_ := Aside0.mk (hbox); have n2_ := Aside0.mk ((q43_ : w.heap.size ≤ gb511)); have n3_ := Aside0.mk ((q43_ : w.heap.size ≤ gb511)); clear HB; have HB := n0_; have BK511 := n1_; have GW511 := n2_; have GE511 := n3_; clear n0_ n1_ n2_ n3_; clear hb hbox hg) | ((with_reducible refine gate_callee (f := 61) rfl ?_); refine goesL_ (some 13) rfl rfl Tryz.func61 (by kernel_rfl) rfl #[.int .i64 a1, .int .i64 0, .int .i64 (wrap64 ((a0.size : Int) - 1))] rfl q9_ ?_; (with_reducible refine (impl_within.calls a1 0 (wrap64 ((a0.size : Int) - 1)) false _ A3.out).mono ?_); rintro e w' ⟨rfl, ⟨nd, rfl⟩⟩; refine ⟨_, rfl, ?_⟩; (try (rw [drewN_self w38]; generalize hq_ : World.drewN w38 _ = w38; have n0_ : Aside0 (w38.heap[gb511]? = some (.cells #[.int .i64 0, .bool false, .int .i64 0] 30 (0, 0))) := ⟨q55_⟩; have n1_ : Aside0 (Below w.heap.size w w38) := ⟨q37_⟩; clear BK511 HB hq_; have BK511 := n0_; have HB := n1_; clear n0_ n1_)); have hcz39_0 : w38.cell? ⟨gb511, 0, none⟩ = some (.int .i64 0) := (blk_cell BK511.out 0).trans rfl; have hcz39_1 : w38.cell? ⟨gb511, 1, none⟩ = some (.bool false) := (blk_cell BK511.out 1).trans rfl; have hcz39_2 : w38.cell? ⟨gb511, 2, none⟩ = some (.int .i64 0) := (blk_cell BK511.out 2).trans rfl; have hfz39_0 := blk_frozen BK511.out 0; have hfz39_1 := blk_frozen BK511.out 1; have hfz39_2 := blk_frozen BK511.out 2))
  refine bodyPost_ret (results_ct rfl _ _ gb511 30 #[.int .i64 0, .bool false, .int .i64 0] (0, 0) _ rfl q2_ Tryz.underlying30 rfl (by kernel_rfl)) rfl ?_
  exact ⟨q59_, q49_⟩
end Go.Proofs.YtodlnnoekccmmaaGreatDoor.QFnIns
