/- The machine's side of a law, written by a program of this session for this claim. -/
import Derived.Test.YtcohcndliaaacaaZFnCartReadsQq
import Derived.Test.YtcohcndliaaacaaZFnCartReadsQFnCartReadsx0
import Derived.Test.YtcohcndliaaacaaZFnCartReadsQFnCartReadsx1
import Derived.Test.YtcohcndliaaacaaZFnCartReadsQFnCartReadsx4
import Derived.Test.YtcohcndliaaacaaZFnCartReadsQFnCartReadsx5
import Derived.Test.YtcohcndliaaacaaZFnCartReadsQFnCartReadsx8
namespace Go.Proofs.Ytcohcndliaaacaa.QFnCartReads
open Go.Proofs.Ytcohcndliaaacaa.Qq
open Go.RowKit Go.Proofs.Ytcohcndliaaacaa.LibX Go.Proofs.Ytcohcndliaaacaa.LibC Go.Proofs.YtcohcndliaaacaaW.PrintWords Go.Proofs.YtcohcndliaaacaaW.PrintLast Go.Proofs.YtcohcndliaaacaaW.PrintMore
attribute [local go_sem] max2_int min2_int max_two min_two max_three min_three max_four min_four   -- for this text's walks alone
set_option maxHeartbeats 8000000
set_option maxRecDepth 100000
set_option linter.unusedVariables false
set_option linter.unusedSimpArgs false
def spec_l3Length.f (k : Nat) (a0 : Int) (a1 : Bool) : Option (Int) := (spec_l3Template.f k a0 a1).bind fun t351 => (if t351.toList = ([] : List UInt8) then (some 0) else (if a1 = true then (some 2) else ((spec_l3Hole.f k t351).bind fun bt352 => (if bt352.2.toList = ([] : List UInt8) then (some 1) else (if bt352.2.toList = ([110, 49, 54] : List UInt8) then (some 3) else (some 2))))))
theorem spec_l3Length.mono : ∀ a0 a1 k, LeO (spec_l3Length.f k a0 a1) (spec_l3Length.f (k + 1) a0 a1) := by
 intro a0 a1 k
 unfold spec_l3Length.f
 repeat' first
   | (with_reducible first | exact spec_l3Hole.mono _ _ | exact spec_l3Template.mono _ _ _ | exact LeO.refl _ | exact LeO.none _ | refine LeO.ite ?_ ?_ | refine LeO.bind ?_ (fun _ => ?_))
   | exact spec_l3Hole.mono _ _
   | exact spec_l3Template.mono _ _ _
   | exact LeO.none _
   | refine LeO.ite ?_ ?_
   | refine LeO.bind ?_ (fun _ => ?_)
theorem spec_l3Length.calls (k : Nat) (a0 : Int) (a1 : Bool) (r : Int) (w : World) (h : spec_l3Length.f k a0 a1 = some r) :
  Calls Try.prog 87 #[.int .i64 a0, .bool a1] w fun e w' => e = .returned (.int .i64 r) ∧ Below w.heap.size w w' := by
 have HB := Aside0.mk (Below.refl w.heap.size w)
 have H : ((spec_l3Template.f k a0 a1).bind fun t351 => (if t351.toList = ([] : List UInt8) then (some 0) else (if a1 = true then (some 2) else ((spec_l3Hole.f k t351).bind fun bt352 => (if bt352.2.toList = ([] : List UInt8) then (some 1) else (if bt352.2.toList = ([110, 49, 54] : List UInt8) then (some 3) else (some 2))))))) = some r := h
 clear h
 replace H := Option.bind_eq_some_iff.mp H
 obtain ⟨t351, A30, H⟩ := H
 have A3 := Aside0.mk A30
 clear A30
 by_cases c4 : t351.toList = ([] : List UInt8)
 ·rw [if_pos c4] at H
  have c4b0 : (t351.toList == ([] : List UInt8)) = true := beq_iff_eq.mpr c4
  have c4b1 : (t351.toList != ([] : List UInt8)) = false := bne_eq_false_iff_eq.mpr c4
  clear c4
  obtain rfl := Option.some.inj H
  go_enter Try.func87, Try.ntmps87
  go_wp2_with (first | ((with_reducible refine gate_callee (f := 94) rfl ?_); refine goesL_ (some 10) rfl rfl Try.func94 (by kernel_rfl) rfl #[.int .i64 a0, .bool a1] rfl q74_ ?_; (with_reducible refine (spec_l3Template.calls k a0 a1 t351 _ A3.out).mono ?_); rintro e w5 ⟨rfl, hb⟩; refine ⟨_, rfl, ?_⟩; replace HB := Aside0.mk (below_step q75_ hb); (try clear hb)))
  go_ret
  exact ⟨q76_, q75_⟩
 ·rw [if_neg c4] at H
  have c4b0 : (t351.toList == ([] : List UInt8)) = false := beq_eq_false_iff_ne.mpr c4
  have c4b1 : (t351.toList != ([] : List UInt8)) = true := bne_iff_ne.mpr c4
  by_cases c6 : a1 = true
  ·subst c6
   replace H : (some 2) = some r := by rw [if_pos rfl] at H; exact H
   obtain rfl := Option.some.inj H
   go_enter Try.func87, Try.ntmps87
   go_wp2_with (first | ((with_reducible refine gate_callee (f := 94) rfl ?_); refine goesL_ (some 10) rfl rfl Try.func94 (by kernel_rfl) rfl #[.int .i64 a0, .bool true] rfl q74_ ?_; (with_reducible refine (spec_l3Template.calls k a0 true t351 _ A3.out).mono ?_); rintro e w7 ⟨rfl, hb⟩; refine ⟨_, rfl, ?_⟩; replace HB := Aside0.mk (below_step q75_ hb); (try clear hb)))
   go_ret
   exact ⟨q76_, q75_⟩
  ·replace c6 := Bool.eq_false_iff.mpr c6
   subst c6
   replace H : ((spec_l3Hole.f k t351).bind fun bt352 => (if bt352.2.toList = ([] : List UInt8) then (some 1) else (if bt352.2.toList = ([110, 49, 54] : List UInt8) then (some 3) else (some 2)))) = some r := by rw [if_neg (show ¬ (false = true) by decide)] at H; exact H
   replace H := Option.bind_eq_some_iff.mp H
   obtain ⟨⟨t352, t353⟩, A80, H⟩ := H
   replace H : (if t353.toList = ([] : List UInt8) then (some 1) else (if t353.toList = ([110, 49, 54] : List UInt8) then (some 3) else (some 2))) = some r := H
   have A8 := Aside0.mk A80
   clear A80
   by_cases c9 : t353.toList = ([] : List UInt8)
   ·rw [if_pos c9] at H
    have c9b0 : (t353.toList == ([] : List UInt8)) = true := beq_iff_eq.mpr c9
    have c9b1 : (t353.toList != ([] : List UInt8)) = false := bne_eq_false_iff_eq.mpr c9
    clear c9
    obtain rfl := Option.some.inj H
    go_enter Try.func87, Try.ntmps87
    go_wp2_with (first | ((with_reducible refine gate_callee (f := 94) rfl ?_); refine goesL_ (some 10) rfl rfl Try.func94 (by kernel_rfl) rfl #[.int .i64 a0, .bool false] rfl q74_ ?_; (with_reducible refine (spec_l3Template.calls k a0 false t351 _ A3.out).mono ?_); rintro e w10 ⟨rfl, hb⟩; refine ⟨_, rfl, ?_⟩; replace HB := Aside0.mk (below_step q75_ hb); (try clear hb)) | ((with_reducible refine gate_callee (f := 93) rfl ?_); refine goesL_ (some 16) rfl rfl Try.func93 (by kernel_rfl) rfl #[.string t351] rfl q74_ ?_; (with_reducible refine (spec_l3Hole.calls k t351 t352 t353 _ A8.out).mono ?_); rintro e w11 ⟨rfl, hb⟩; refine ⟨_, rfl, ?_⟩; replace HB := Aside0.mk (below_step q75_ hb); (try clear hb)))
    go_ret
    exact ⟨q76_, q75_⟩
   ·rw [if_neg c9] at H
    have c9b0 : (t353.toList == ([] : List UInt8)) = false := beq_eq_false_iff_ne.mpr c9
    have c9b1 : (t353.toList != ([] : List UInt8)) = true := bne_iff_ne.mpr c9
    by_cases c12 : t353.toList = ([110, 49, 54] : List UInt8)
    ·rw [if_pos c12] at H
     have c12b0 : (t353.toList == ([110, 49, 54] : List UInt8)) = true := beq_iff_eq.mpr c12
     have c12b1 : (t353.toList != ([110, 49, 54] : List UInt8)) = false := bne_eq_false_iff_eq.mpr c12
     clear c12
     obtain rfl := Option.some.inj H
     go_enter Try.func87, Try.ntmps87
     go_wp2_with (first | ((with_reducible refine gate_callee (f := 94) rfl ?_); refine goesL_ (some 10) rfl rfl Try.func94 (by kernel_rfl) rfl #[.int .i64 a0, .bool false] rfl q74_ ?_; (with_reducible refine (spec_l3Template.calls k a0 false t351 _ A3.out).mono ?_); rintro e w13 ⟨rfl, hb⟩; refine ⟨_, rfl, ?_⟩; replace HB := Aside0.mk (below_step q75_ hb); (try clear hb)) | ((with_reducible refine gate_callee (f := 93) rfl ?_); refine goesL_ (some 16) rfl rfl Try.func93 (by kernel_rfl) rfl #[.string t351] rfl q74_ ?_; (with_reducible refine (spec_l3Hole.calls k t351 t352 t353 _ A8.out).mono ?_); rintro e w14 ⟨rfl, hb⟩; refine ⟨_, rfl, ?_⟩; replace HB := Aside0.mk (below_step q75_ hb); (try clear hb)))
     go_ret
     exact ⟨q76_, q75_⟩
    ·rw [if_neg c12] at H
     have c12b0 : (t353.toList == ([110, 49, 54] : List UInt8)) = false := beq_eq_false_iff_ne.mpr c12
     have c12b1 : (t353.toList != ([110, 49, 54] : List UInt8)) = true := bne_iff_ne.mpr c12
     obtain rfl := Option.some.inj H
     go_enter Try.func87, Try.ntmps87
     go_wp2_with (first | ((with_reducible refine gate_callee (f := 94) rfl ?_); refine goesL_ (some 10) rfl rfl Try.func94 (by kernel_rfl) rfl #[.int .i64 a0, .bool false] rfl q74_ ?_; (with_reducible refine (spec_l3Template.calls k a0 false t351 _ A3.out).mono ?_); rintro e w15 ⟨rfl, hb⟩; refine ⟨_, rfl, ?_⟩; replace HB := Aside0.mk (below_step q75_ hb); (try clear hb)) | ((with_reducible refine gate_callee (f := 93) rfl ?_); refine goesL_ (some 16) rfl rfl Try.func93 (by kernel_rfl) rfl #[.string t351] rfl q74_ ?_; (with_reducible refine (spec_l3Hole.calls k t351 t352 t353 _ A8.out).mono ?_); rintro e w16 ⟨rfl, hb⟩; refine ⟨_, rfl, ?_⟩; replace HB := Aside0.mk (below_step q75_ hb); (try clear hb)))
     go_ret
     exact ⟨q76_, q75_⟩
def spec_LengthOf.f (k : Nat) (a0 : Int) (a1 : Bool) : Option (Int) := (spec_l1In.f a0 0 255).bind fun t354 => (if t354 = true then ((spec_l3Length.f k a0 a1).bind fun t355 => (some t355)) else (some 0))
theorem spec_LengthOf.mono : ∀ a0 a1 k, LeO (spec_LengthOf.f k a0 a1) (spec_LengthOf.f (k + 1) a0 a1) := by
 intro a0 a1 k
 unfold spec_LengthOf.f
 repeat' first
   | (with_reducible first | exact spec_l3Length.mono _ _ _ | exact LeO.refl _ | exact LeO.none _ | refine LeO.ite ?_ ?_ | refine LeO.bind ?_ (fun _ => ?_))
   | exact spec_l3Length.mono _ _ _
   | exact LeO.none _
   | refine LeO.ite ?_ ?_
   | refine LeO.bind ?_ (fun _ => ?_)
theorem spec_LengthOf.calls (k : Nat) (a0 : Int) (a1 : Bool) (r : Int) (w : World) (h : spec_LengthOf.f k a0 a1 = some r) :
  Calls Try.prog 92 #[.int .i64 a0, .bool a1] w fun e w' => e = .returned (.int .i64 r) ∧ Below w.heap.size w w' := by
 have HB := Aside0.mk (Below.refl w.heap.size w)
 have H : ((spec_l1In.f a0 0 255).bind fun t354 => (if t354 = true then ((spec_l3Length.f k a0 a1).bind fun t355 => (some t355)) else (some 0))) = some r := h
 clear h
 replace H := Option.bind_eq_some_iff.mp H
 obtain ⟨t354, A30, H⟩ := H
 have A3 := Aside0.mk A30
 clear A30
 by_cases c4 : t354 = true
 ·subst c4
  replace H : ((spec_l3Length.f k a0 a1).bind fun t355 => (some t355)) = some r := by rw [if_pos rfl] at H; exact H
  replace H := Option.bind_eq_some_iff.mp H
  obtain ⟨t355, A50, H⟩ := H
  have A5 := Aside0.mk A50
  clear A50
  obtain rfl := Option.some.inj H
  go_enter Try.func92, Try.ntmps92
  go_wp2_with (first | ((with_reducible refine gate_callee (f := 41) rfl ?_); refine goesL_ (some 6) rfl rfl Try.func41 (by kernel_rfl) rfl #[.int .i64 a0, .int .i64 0, .int .i64 255] rfl q74_ ?_; (with_reducible refine (spec_l1In.calls a0 0 255 true _ A3.out).mono ?_); rintro e w' ⟨rfl, ⟨nd, rfl⟩⟩; refine ⟨_, rfl, ?_⟩) | ((with_reducible refine gate_callee (f := 87) rfl ?_); refine goesL_ (some 10) rfl rfl Try.func87 (by kernel_rfl) rfl #[.int .i64 a0, .bool a1] rfl q74_ ?_; (with_reducible refine (spec_l3Length.calls k a0 a1 t355 _ A5.out).mono ?_); rintro e w6 ⟨rfl, hb⟩; refine ⟨_, rfl, ?_⟩; replace HB := Aside0.mk (below_step q75_ hb); (try clear hb)))
  go_ret
  exact ⟨q76_, q75_⟩
 ·replace c4 := Bool.eq_false_iff.mpr c4
  subst c4
  replace H : (some 0) = some r := by rw [if_neg (show ¬ (false = true) by decide)] at H; exact H
  obtain rfl := Option.some.inj H
  go_enter Try.func92, Try.ntmps92
  go_wp2_with (first | ((with_reducible refine gate_callee (f := 41) rfl ?_); refine goesL_ (some 6) rfl rfl Try.func41 (by kernel_rfl) rfl #[.int .i64 a0, .int .i64 0, .int .i64 255] rfl q74_ ?_; (with_reducible refine (spec_l1In.calls a0 0 255 false _ A3.out).mono ?_); rintro e w' ⟨rfl, ⟨nd, rfl⟩⟩; refine ⟨_, rfl, ?_⟩))
  go_ret
  exact ⟨q76_, q75_⟩
def spec_InsOk.f (k : Nat) (a0_0 : Int) (a0_1 : Bool) (a0_2 : Int) : Option (Bool) := (spec_LengthOf.f k a0_0 a0_1).bind fun t357 => (if t357 = 0 then (some false) else ((spec_l3Template.f k a0_0 a0_1).bind fun t358 => ((spec_l3Hole.f k t358).bind fun bt359 => (if bt359.2.toList = ([110, 49, 54] : List UInt8) then ((spec_l1In.f a0_2 0 65535).bind fun t361 => (some t361)) else (if bt359.2.toList = ([110, 56] : List UInt8) then ((spec_l1In.f a0_2 0 255).bind fun t362 => (some t362)) else (if bt359.2.toList = ([101, 56] : List UInt8) then ((spec_l1In.f a0_2 0 255).bind fun t363 => (some t363)) else (some (a0_2 == 0))))))))
theorem spec_InsOk.mono : ∀ a0 a1 a2 k, LeO (spec_InsOk.f k a0 a1 a2) (spec_InsOk.f (k + 1) a0 a1 a2) := by
 intro a0 a1 a2 k
 unfold spec_InsOk.f
 repeat' first
   | (with_reducible first | exact spec_LengthOf.mono _ _ _ | exact spec_l3Hole.mono _ _ | exact spec_l3Template.mono _ _ _ | exact LeO.refl _ | exact LeO.none _ | refine LeO.ite ?_ ?_ | refine LeO.bind ?_ (fun _ => ?_))
   | exact spec_LengthOf.mono _ _ _
   | exact spec_l3Hole.mono _ _
   | exact spec_l3Template.mono _ _ _
   | exact LeO.none _
   | refine LeO.ite ?_ ?_
   | refine LeO.bind ?_ (fun _ => ?_)
theorem spec_InsOk.calls (k : Nat) (a0_0 : Int) (a0_1 : Bool) (a0_2 : Int) (r : Bool) (w : World) (h : spec_InsOk.f k a0_0 a0_1 a0_2 = some r) :
  Calls Try.prog 86 #[.agg #[.int .i64 a0_0, .bool a0_1, .int .i64 a0_2]] w fun e w' => e = .returned (.bool r) ∧ Below w.heap.size w w' := by
 have hu85 := Try.underlying85
 have HB := Aside0.mk (Below.refl w.heap.size w)
 have H : ((spec_LengthOf.f k a0_0 a0_1).bind fun t357 => (if t357 = 0 then (some false) else ((spec_l3Template.f k a0_0 a0_1).bind fun t358 => ((spec_l3Hole.f k t358).bind fun bt359 => (if bt359.2.toList = ([110, 49, 54] : List UInt8) then ((spec_l1In.f a0_2 0 65535).bind fun t361 => (some t361)) else (if bt359.2.toList = ([110, 56] : List UInt8) then ((spec_l1In.f a0_2 0 255).bind fun t362 => (some t362)) else (if bt359.2.toList = ([101, 56] : List UInt8) then ((spec_l1In.f a0_2 0 255).bind fun t363 => (some t363)) else (some (a0_2 == 0))))))))) = some r := h
 clear h
 replace H := Option.bind_eq_some_iff.mp H
 obtain ⟨t357, A20, H⟩ := H
 have A2 := Aside0.mk A20
 clear A20
 by_cases c3 : t357 = 0
 ·rw [if_pos c3] at H
  have c3b0 : (t357 == 0) = true := beq_iff_eq.mpr c3
  have c3b1 : (t357 != 0) = false := bne_eq_false_iff_eq.mpr c3
  clear c3
  obtain rfl := Option.some.inj H
  go_enter Try.func86, Try.ntmps86
  go_wp2_with (first | ((with_reducible refine gate_dst (N := 1) rfl ?_); refine box_event ?hg (N := 1) ?hd (cs := #[.int .i64 a0_0, .bool a0_1, .int .i64 a0_2]) (t := 85) ?hr ?_; (case hd => rfl); (case hg => rfl); (case hr => exact q138_); intro gb356 hg w4 hbox hb; have n0_ := Aside0.mk (below_step q75_ hb); have n1_ := Aside0.mk (hbox); have n2_ := Aside0.mk ((q52_ : w.heap.size ≤ gb356)); have n3_ := Aside0.mk ((q52_ : w.heap.size ≤ gb356)); clear HB; have HB := n0_; have BK356 := n1_; have GW356 := n2_; have GE356 := n3_; clear n0_ n1_ n2_ n3_; clear hb hbox hg; have hcz5_0 : w4.cell? ⟨gb356, 0, none⟩ = some (.int .i64 a0_0) := (blk_cell BK356.out 0).trans rfl; have hcz5_1 : w4.cell? ⟨gb356, 1, none⟩ = some (.bool a0_1) := (blk_cell BK356.out 1).trans rfl; have hcz5_2 : w4.cell? ⟨gb356, 2, none⟩ = some (.int .i64 a0_2) := (blk_cell BK356.out 2).trans rfl; have hfz5_0 := blk_frozen BK356.out 0; have hfz5_1 := blk_frozen BK356.out 1; have hfz5_2 := blk_frozen BK356.out 2) | ((with_reducible refine gate_callee (f := 92) rfl ?_); refine goesL_ (some 9) rfl rfl Try.func92 (by kernel_rfl) rfl #[.int .i64 a0_0, .bool a0_1] rfl q74_ ?_; (with_reducible refine (spec_LengthOf.calls k a0_0 a0_1 t357 _ A2.out).mono ?_); rintro e w6 ⟨rfl, hb⟩; refine ⟨_, rfl, ?_⟩; have n0_ := Aside0.mk (blk_below (g := gb356) (o := .cells #[.int .i64 a0_0, .bool a0_1, .int .i64 a0_2] 85 (0, 0)) q85_ hb); have n1_ := Aside0.mk (below_step q60_ hb); clear BK356; clear HB; have BK356 := n0_; have HB := n1_; clear n0_ n1_; (try clear hb)))
  go_ret
  exact ⟨q76_, q60_⟩
 ·rw [if_neg c3] at H
  have c3b0 : (t357 == 0) = false := beq_eq_false_iff_ne.mpr c3
  have c3b1 : (t357 != 0) = true := bne_iff_ne.mpr c3
  replace H := Option.bind_eq_some_iff.mp H
  obtain ⟨t358, A70, H⟩ := H
  have A7 := Aside0.mk A70
  clear A70
  replace H := Option.bind_eq_some_iff.mp H
  obtain ⟨⟨t359, t360⟩, A80, H⟩ := H
  replace H : (if t360.toList = ([110, 49, 54] : List UInt8) then ((spec_l1In.f a0_2 0 65535).bind fun t361 => (some t361)) else (if t360.toList = ([110, 56] : List UInt8) then ((spec_l1In.f a0_2 0 255).bind fun t362 => (some t362)) else (if t360.toList = ([101, 56] : List UInt8) then ((spec_l1In.f a0_2 0 255).bind fun t363 => (some t363)) else (some (a0_2 == 0))))) = some r := H
  have A8 := Aside0.mk A80
  clear A80
  by_cases c9 : t360.toList = ([110, 49, 54] : List UInt8)
  ·rw [if_pos c9] at H
   have c9b0 : (t360.toList == ([110, 49, 54] : List UInt8)) = true := beq_iff_eq.mpr c9
   have c9b1 : (t360.toList != ([110, 49, 54] : List UInt8)) = false := bne_eq_false_iff_eq.mpr c9
   clear c9
   replace H := Option.bind_eq_some_iff.mp H
   obtain ⟨t361, A100, H⟩ := H
   have A10 := Aside0.mk A100
   clear A100
   obtain rfl := Option.some.inj H
   go_enter Try.func86, Try.ntmps86
   go_wp2_with (first | ((with_reducible refine gate_dst (N := 1) rfl ?_); refine box_event ?hg (N := 1) ?hd (cs := #[.int .i64 a0_0, .bool a0_1, .int .i64 a0_2]) (t := 85) ?hr ?_; (case hd => rfl); (case hg => rfl); (case hr => exact q138_); intro gb356 hg w11 hbox hb; have n0_ := Aside0.mk (below_step q75_ hb); have n1_ := Aside0.mk (hbox); have n2_ := Aside0.mk ((q52_ : w.heap.size ≤ gb356)); have n3_ := Aside0.mk ((q52_ : w.heap.size ≤ gb356)); clear HB; have HB := n0_; have BK356 := n1_; have GW356 := n2_; have GE356 := n3_; clear n0_ n1_ n2_ n3_; clear hb hbox hg; have hcz12_0 : w11.cell? ⟨gb356, 0, none⟩ = some (.int .i64 a0_0) := (blk_cell BK356.out 0).trans rfl; have hcz12_1 : w11.cell? ⟨gb356, 1, none⟩ = some (.bool a0_1) := (blk_cell BK356.out 1).trans rfl; have hcz12_2 : w11.cell? ⟨gb356, 2, none⟩ = some (.int .i64 a0_2) := (blk_cell BK356.out 2).trans rfl; have hfz12_0 := blk_frozen BK356.out 0; have hfz12_1 := blk_frozen BK356.out 1; have hfz12_2 := blk_frozen BK356.out 2) | ((with_reducible refine gate_callee (f := 92) rfl ?_); refine goesL_ (some 9) rfl rfl Try.func92 (by kernel_rfl) rfl #[.int .i64 a0_0, .bool a0_1] rfl q74_ ?_; (with_reducible refine (spec_LengthOf.calls k a0_0 a0_1 t357 _ A2.out).mono ?_); rintro e w13 ⟨rfl, hb⟩; refine ⟨_, rfl, ?_⟩; have n0_ := Aside0.mk (blk_below (g := gb356) (o := .cells #[.int .i64 a0_0, .bool a0_1, .int .i64 a0_2] 85 (0, 0)) q85_ hb); have n1_ := Aside0.mk (below_step q60_ hb); clear BK356; clear HB; have BK356 := n0_; have HB := n1_; clear n0_ n1_; (try clear hb); have hcz14_0 : w13.cell? ⟨gb356, 0, none⟩ = some (.int .i64 a0_0) := (blk_cell BK356.out 0).trans rfl; have hcz14_1 : w13.cell? ⟨gb356, 1, none⟩ = some (.bool a0_1) := (blk_cell BK356.out 1).trans rfl; have hcz14_2 : w13.cell? ⟨gb356, 2, none⟩ = some (.int .i64 a0_2) := (blk_cell BK356.out 2).trans rfl; have hfz14_0 := blk_frozen BK356.out 0; have hfz14_1 := blk_frozen BK356.out 1; have hfz14_2 := blk_frozen BK356.out 2) | ((with_reducible refine gate_callee (f := 94) rfl ?_); refine goesL_ (some 16) rfl rfl Try.func94 (by kernel_rfl) rfl #[.int .i64 a0_0, .bool a0_1] rfl q74_ ?_; (with_reducible refine (spec_l3Template.calls k a0_0 a0_1 t358 _ A7.out).mono ?_); rintro e w15 ⟨rfl, hb⟩; refine ⟨_, rfl, ?_⟩; have n0_ := Aside0.mk (blk_below (g := gb356) (o := .cells #[.int .i64 a0_0, .bool a0_1, .int .i64 a0_2] 85 (0, 0)) q85_ hb); have n1_ := Aside0.mk (below_step q60_ hb); clear BK356; clear HB; have BK356 := n0_; have HB := n1_; clear n0_ n1_; (try clear hb)) | ((with_reducible refine gate_callee (f := 93) rfl ?_); refine goesL_ (some 17) rfl rfl Try.func93 (by kernel_rfl) rfl #[.string t358] rfl q74_ ?_; (with_reducible refine (spec_l3Hole.calls k t358 t359 t360 _ A8.out).mono ?_); rintro e w16 ⟨rfl, hb⟩; refine ⟨_, rfl, ?_⟩; have n0_ := Aside0.mk (blk_below (g := gb356) (o := .cells #[.int .i64 a0_0, .bool a0_1, .int .i64 a0_2] 85 (0, 0)) q85_ hb); have n1_ := Aside0.mk (below_step q60_ hb); clear BK356; clear HB; have BK356 := n0_; have HB := n1_; clear n0_ n1_; (try clear hb); have hcz17_0 : w16.cell? ⟨gb356, 0, none⟩ = some (.int .i64 a0_0) := (blk_cell BK356.out 0).trans rfl; have hcz17_1 : w16.cell? ⟨gb356, 1, none⟩ = some (.bool a0_1) := (blk_cell BK356.out 1).trans rfl; have hcz17_2 : w16.cell? ⟨gb356, 2, none⟩ = some (.int .i64 a0_2) := (blk_cell BK356.out 2).trans rfl; have hfz17_0 := blk_frozen BK356.out 0; have hfz17_1 := blk_frozen BK356.out 1; have hfz17_2 := blk_frozen BK356.out 2) | ((with_reducible refine gate_callee (f := 41) rfl ?_); refine goesL_ (some 25) rfl rfl Try.func41 (by kernel_rfl) rfl #[.int .i64 a0_2, .int .i64 0, .int .i64 65535] rfl q74_ ?_; (with_reducible refine (spec_l1In.calls a0_2 0 65535 t361 _ A10.out).mono ?_); rintro e w' ⟨rfl, ⟨nd, rfl⟩⟩; refine ⟨_, rfl, ?_⟩))
   go_ret
   exact ⟨q76_, q60_⟩
  ·rw [if_neg c9] at H
   have c9b0 : (t360.toList == ([110, 49, 54] : List UInt8)) = false := beq_eq_false_iff_ne.mpr c9
   have c9b1 : (t360.toList != ([110, 49, 54] : List UInt8)) = true := bne_iff_ne.mpr c9
   by_cases c18 : t360.toList = ([110, 56] : List UInt8)
   ·rw [if_pos c18] at H
    have c18b0 : (t360.toList == ([110, 56] : List UInt8)) = true := beq_iff_eq.mpr c18
    have c18b1 : (t360.toList != ([110, 56] : List UInt8)) = false := bne_eq_false_iff_eq.mpr c18
    clear c18
    replace H := Option.bind_eq_some_iff.mp H
    obtain ⟨t362, A190, H⟩ := H
    have A19 := Aside0.mk A190
    clear A190
    obtain rfl := Option.some.inj H
    go_enter Try.func86, Try.ntmps86
    go_wp2_with (first | ((with_reducible refine gate_dst (N := 1) rfl ?_); refine box_event ?hg (N := 1) ?hd (cs := #[.int .i64 a0_0, .bool a0_1, .int .i64 a0_2]) (t := 85) ?hr ?_; (case hd => rfl); (case hg => rfl); (case hr => exact q138_); intro gb356 hg w20 hbox hb; have n0_ := Aside0.mk (below_step q75_ hb); have n1_ := Aside0.mk (hbox); have n2_ := Aside0.mk ((q52_ : w.heap.size ≤ gb356)); have n3_ := Aside0.mk ((q52_ : w.heap.size ≤ gb356)); clear HB; have HB := n0_; have BK356 := n1_; have GW356 := n2_; have GE356 := n3_; clear n0_ n1_ n2_ n3_; clear hb hbox hg; have hcz21_0 : w20.cell? ⟨gb356, 0, none⟩ = some (.int .i64 a0_0) := (blk_cell BK356.out 0).trans rfl; have hcz21_1 : w20.cell? ⟨gb356, 1, none⟩ = some (.bool a0_1) := (blk_cell BK356.out 1).trans rfl; have hcz21_2 : w20.cell? ⟨gb356, 2, none⟩ = some (.int .i64 a0_2) := (blk_cell BK356.out 2).trans rfl; have hfz21_0 := blk_frozen BK356.out 0; have hfz21_1 := blk_frozen BK356.out 1; have hfz21_2 := blk_frozen BK356.out 2) | ((with_reducible refine gate_callee (f := 92) rfl ?_); refine goesL_ (some 9) rfl rfl Try.func92 (by kernel_rfl) rfl #[.int .i64 a0_0, .bool a0_1] rfl q74_ ?_; (with_reducible refine (spec_LengthOf.calls k a0_0 a0_1 t357 _ A2.out).mono ?_); rintro e w22 ⟨rfl, hb⟩; refine ⟨_, rfl, ?_⟩; have n0_ := Aside0.mk (blk_below (g := gb356) (o := .cells #[.int .i64 a0_0, .bool a0_1, .int .i64 a0_2] 85 (0, 0)) q85_ hb); have n1_ := Aside0.mk (below_step q60_ hb); clear BK356; clear HB; have BK356 := n0_; have HB := n1_; clear n0_ n1_; (try clear hb); have hcz23_0 : w22.cell? ⟨gb356, 0, none⟩ = some (.int .i64 a0_0) := (blk_cell BK356.out 0).trans rfl; have hcz23_1 : w22.cell? ⟨gb356, 1, none⟩ = some (.bool a0_1) := (blk_cell BK356.out 1).trans rfl; have hcz23_2 : w22.cell? ⟨gb356, 2, none⟩ = some (.int .i64 a0_2) := (blk_cell BK356.out 2).trans rfl; have hfz23_0 := blk_frozen BK356.out 0; have hfz23_1 := blk_frozen BK356.out 1; have hfz23_2 := blk_frozen BK356.out 2) | ((with_reducible refine gate_callee (f := 94) rfl ?_); refine goesL_ (some 16) rfl rfl Try.func94 (by kernel_rfl) rfl #[.int .i64 a0_0, .bool a0_1] rfl q74_ ?_; (with_reducible refine (spec_l3Template.calls k a0_0 a0_1 t358 _ A7.out).mono ?_); rintro e w24 ⟨rfl, hb⟩; refine ⟨_, rfl, ?_⟩; have n0_ := Aside0.mk (blk_below (g := gb356) (o := .cells #[.int .i64 a0_0, .bool a0_1, .int .i64 a0_2] 85 (0, 0)) q85_ hb); have n1_ := Aside0.mk (below_step q60_ hb); clear BK356; clear HB; have BK356 := n0_; have HB := n1_; clear n0_ n1_; (try clear hb)) | ((with_reducible refine gate_callee (f := 93) rfl ?_); refine goesL_ (some 17) rfl rfl Try.func93 (by kernel_rfl) rfl #[.string t358] rfl q74_ ?_; (with_reducible refine (spec_l3Hole.calls k t358 t359 t360 _ A8.out).mono ?_); rintro e w25 ⟨rfl, hb⟩; refine ⟨_, rfl, ?_⟩; have n0_ := Aside0.mk (blk_below (g := gb356) (o := .cells #[.int .i64 a0_0, .bool a0_1, .int .i64 a0_2] 85 (0, 0)) q85_ hb); have n1_ := Aside0.mk (below_step q60_ hb); clear BK356; clear HB; have BK356 := n0_; have HB := n1_; clear n0_ n1_; (try clear hb); have hcz26_0 : w25.cell? ⟨gb356, 0, none⟩ = some (.int .i64 a0_0) := (blk_cell BK356.out 0).trans rfl; have hcz26_1 : w25.cell? ⟨gb356, 1, none⟩ = some (.bool a0_1) := (blk_cell BK356.out 1).trans rfl; have hcz26_2 : w25.cell? ⟨gb356, 2, none⟩ = some (.int .i64 a0_2) := (blk_cell BK356.out 2).trans rfl; have hfz26_0 := blk_frozen BK356.out 0; have hfz26_1 := blk_frozen BK356.out 1; have hfz26_2 := blk_frozen BK356.out 2) | ((with_reducible refine gate_callee (f := 41) rfl ?_); refine goesL_ (some 31) rfl rfl Try.func41 (by kernel_rfl) rfl #[.int .i64 a0_2, .int .i64 0, .int .i64 255] rfl q74_ ?_; (with_reducible refine (spec_l1In.calls a0_2 0 255 t362 _ A19.out).mono ?_); rintro e w' ⟨rfl, ⟨nd, rfl⟩⟩; refine ⟨_, rfl, ?_⟩))
    go_ret
    exact ⟨q76_, q60_⟩
   ·rw [if_neg c18] at H
    have c18b0 : (t360.toList == ([110, 56] : List UInt8)) = false := beq_eq_false_iff_ne.mpr c18
    have c18b1 : (t360.toList != ([110, 56] : List UInt8)) = true := bne_iff_ne.mpr c18
    by_cases c27 : t360.toList = ([101, 56] : List UInt8)
    ·rw [if_pos c27] at H
     have c27b0 : (t360.toList == ([101, 56] : List UInt8)) = true := beq_iff_eq.mpr c27
     have c27b1 : (t360.toList != ([101, 56] : List UInt8)) = false := bne_eq_false_iff_eq.mpr c27
     clear c27
     replace H := Option.bind_eq_some_iff.mp H
     obtain ⟨t363, A280, H⟩ := H
     have A28 := Aside0.mk A280
     clear A280
     obtain rfl := Option.some.inj H
     go_enter Try.func86, Try.ntmps86
     go_wp2_with (first | ((with_reducible refine gate_dst (N := 1) rfl ?_); refine box_event ?hg (N := 1) ?hd (cs := #[.int .i64 a0_0, .bool a0_1, .int .i64 a0_2]) (t := 85) ?hr ?_; (case hd => rfl); (case hg => rfl); (case hr => exact q138_); intro gb356 hg w29 hbox hb; have n0_ := Aside0.mk (below_step q75_ hb); have n1_ := Aside0.mk (hbox); have n2_ := Aside0.mk ((q52_ : w.heap.size ≤ gb356)); have n3_ := Aside0.mk ((q52_ : w.heap.size ≤ gb356)); clear HB; have HB := n0_; have BK356 := n1_; have GW356 := n2_; have GE356 := n3_; clear n0_ n1_ n2_ n3_; clear hb hbox hg; have hcz30_0 : w29.cell? ⟨gb356, 0, none⟩ = some (.int .i64 a0_0) := (blk_cell BK356.out 0).trans rfl; have hcz30_1 : w29.cell? ⟨gb356, 1, none⟩ = some (.bool a0_1) := (blk_cell BK356.out 1).trans rfl; have hcz30_2 : w29.cell? ⟨gb356, 2, none⟩ = some (.int .i64 a0_2) := (blk_cell BK356.out 2).trans rfl; have hfz30_0 := blk_frozen BK356.out 0; have hfz30_1 := blk_frozen BK356.out 1; have hfz30_2 := blk_frozen BK356.out 2) | ((with_reducible refine gate_callee (f := 92) rfl ?_); refine goesL_ (some 9) rfl rfl Try.func92 (by kernel_rfl) rfl #[.int .i64 a0_0, .bool a0_1] rfl q74_ ?_; (with_reducible refine (spec_LengthOf.calls k a0_0 a0_1 t357 _ A2.out).mono ?_); rintro e w31 ⟨rfl, hb⟩; refine ⟨_, rfl, ?_⟩; have n0_ := Aside0.mk (blk_below (g := gb356) (o := .cells #[.int .i64 a0_0, .bool a0_1, .int .i64 a0_2] 85 (0, 0)) q85_ hb); have n1_ := Aside0.mk (below_step q60_ hb); clear BK356; clear HB; have BK356 := n0_; have HB := n1_; clear n0_ n1_; (try clear hb); have hcz32_0 : w31.cell? ⟨gb356, 0, none⟩ = some (.int .i64 a0_0) := (blk_cell BK356.out 0).trans rfl; have hcz32_1 : w31.cell? ⟨gb356, 1, none⟩ = some (.bool a0_1) := (blk_cell BK356.out 1).trans rfl; have hcz32_2 : w31.cell? ⟨gb356, 2, none⟩ = some (.int .i64 a0_2) := (blk_cell BK356.out 2).trans rfl; have hfz32_0 := blk_frozen BK356.out 0; have hfz32_1 := blk_frozen BK356.out 1; have hfz32_2 := blk_frozen BK356.out 2) | ((with_reducible refine gate_callee (f := 94) rfl ?_); refine goesL_ (some 16) rfl rfl Try.func94 (by kernel_rfl) rfl #[.int .i64 a0_0, .bool a0_1] rfl q74_ ?_; (with_reducible refine (spec_l3Template.calls k a0_0 a0_1 t358 _ A7.out).mono ?_); rintro e w33 ⟨rfl, hb⟩; refine ⟨_, rfl, ?_⟩; have n0_ := Aside0.mk (blk_below (g := gb356) (o := .cells #[.int .i64 a0_0, .bool a0_1, .int .i64 a0_2] 85 (0, 0)) q85_ hb); have n1_ := Aside0.mk (below_step q60_ hb); clear BK356; clear HB; have BK356 := n0_; have HB := n1_; clear n0_ n1_; (try clear hb)) | ((with_reducible refine gate_callee (f := 93) rfl ?_); refine goesL_ (some 17) rfl rfl Try.func93 (by kernel_rfl) rfl #[.string t358] rfl q74_ ?_; (with_reducible refine (spec_l3Hole.calls k t358 t359 t360 _ A8.out).mono ?_); rintro e w34 ⟨rfl, hb⟩; refine ⟨_, rfl, ?_⟩; have n0_ := Aside0.mk (blk_below (g := gb356) (o := .cells #[.int .i64 a0_0, .bool a0_1, .int .i64 a0_2] 85 (0, 0)) q85_ hb); have n1_ := Aside0.mk (below_step q60_ hb); clear BK356; clear HB; have BK356 := n0_; have HB := n1_; clear n0_ n1_; (try clear hb); have hcz35_0 : w34.cell? ⟨gb356, 0, none⟩ = some (.int .i64 a0_0) := (blk_cell BK356.out 0).trans rfl; have hcz35_1 : w34.cell? ⟨gb356, 1, none⟩ = some (.bool a0_1) := (blk_cell BK356.out 1).trans rfl; have hcz35_2 : w34.cell? ⟨gb356, 2, none⟩ = some (.int .i64 a0_2) := (blk_cell BK356.out 2).trans rfl; have hfz35_0 := blk_frozen BK356.out 0; have hfz35_1 := blk_frozen BK356.out 1; have hfz35_2 := blk_frozen BK356.out 2) | ((with_reducible refine gate_callee (f := 41) rfl ?_); refine goesL_ (some 31) rfl rfl Try.func41 (by kernel_rfl) rfl #[.int .i64 a0_2, .int .i64 0, .int .i64 255] rfl q74_ ?_; (with_reducible refine (spec_l1In.calls a0_2 0 255 t363 _ A28.out).mono ?_); rintro e w' ⟨rfl, ⟨nd, rfl⟩⟩; refine ⟨_, rfl, ?_⟩))
     go_ret
     exact ⟨q76_, q60_⟩
    ·rw [if_neg c27] at H
     have c27b0 : (t360.toList == ([101, 56] : List UInt8)) = false := beq_eq_false_iff_ne.mpr c27
     have c27b1 : (t360.toList != ([101, 56] : List UInt8)) = true := bne_iff_ne.mpr c27
     obtain rfl := Option.some.inj H
     go_enter Try.func86, Try.ntmps86
     go_wp2_with (first | ((with_reducible refine gate_dst (N := 1) rfl ?_); refine box_event ?hg (N := 1) ?hd (cs := #[.int .i64 a0_0, .bool a0_1, .int .i64 a0_2]) (t := 85) ?hr ?_; (case hd => rfl); (case hg => rfl); (case hr => exact q138_); intro gb356 hg w36 hbox hb; have n0_ := Aside0.mk (below_step q75_ hb); have n1_ := Aside0.mk (hbox); have n2_ := Aside0.mk ((q52_ : w.heap.size ≤ gb356)); have n3_ := Aside0.mk ((q52_ : w.heap.size ≤ gb356)); clear HB; have HB := n0_; have BK356 := n1_; have GW356 := n2_; have GE356 := n3_; clear n0_ n1_ n2_ n3_; clear hb hbox hg; have hcz37_0 : w36.cell? ⟨gb356, 0, none⟩ = some (.int .i64 a0_0) := (blk_cell BK356.out 0).trans rfl; have hcz37_1 : w36.cell? ⟨gb356, 1, none⟩ = some (.bool a0_1) := (blk_cell BK356.out 1).trans rfl; have hcz37_2 : w36.cell? ⟨gb356, 2, none⟩ = some (.int .i64 a0_2) := (blk_cell BK356.out 2).trans rfl; have hfz37_0 := blk_frozen BK356.out 0; have hfz37_1 := blk_frozen BK356.out 1; have hfz37_2 := blk_frozen BK356.out 2) | ((with_reducible refine gate_callee (f := 92) rfl ?_); refine goesL_ (some 9) rfl rfl Try.func92 (by kernel_rfl) rfl #[.int .i64 a0_0, .bool a0_1] rfl q74_ ?_; (with_reducible refine (spec_LengthOf.calls k a0_0 a0_1 t357 _ A2.out).mono ?_); rintro e w38 ⟨rfl, hb⟩; refine ⟨_, rfl, ?_⟩; have n0_ := Aside0.mk (blk_below (g := gb356) (o := .cells #[.int .i64 a0_0, .bool a0_1, .int .i64 a0_2] 85 (0, 0)) q85_ hb); have n1_ := Aside0.mk (below_step q60_ hb); clear BK356; clear HB; have BK356 := n0_; have HB := n1_; clear n0_ n1_; (try clear hb); have hcz39_0 : w38.cell? ⟨gb356, 0, none⟩ = some (.int .i64 a0_0) := (blk_cell BK356.out 0).trans rfl; have hcz39_1 : w38.cell? ⟨gb356, 1, none⟩ = some (.bool a0_1) := (blk_cell BK356.out 1).trans rfl; have hcz39_2 : w38.cell? ⟨gb356, 2, none⟩ = some (.int .i64 a0_2) := (blk_cell BK356.out 2).trans rfl; have hfz39_0 := blk_frozen BK356.out 0; have hfz39_1 := blk_frozen BK356.out 1; have hfz39_2 := blk_frozen BK356.out 2) | ((with_reducible refine gate_callee (f := 94) rfl ?_); refine goesL_ (some 16) rfl rfl Try.func94 (by kernel_rfl) rfl #[.int .i64 a0_0, .bool a0_1] rfl q74_ ?_; (with_reducible refine (spec_l3Template.calls k a0_0 a0_1 t358 _ A7.out).mono ?_); rintro e w40 ⟨rfl, hb⟩; refine ⟨_, rfl, ?_⟩; have n0_ := Aside0.mk (blk_below (g := gb356) (o := .cells #[.int .i64 a0_0, .bool a0_1, .int .i64 a0_2] 85 (0, 0)) q85_ hb); have n1_ := Aside0.mk (below_step q60_ hb); clear BK356; clear HB; have BK356 := n0_; have HB := n1_; clear n0_ n1_; (try clear hb)) | ((with_reducible refine gate_callee (f := 93) rfl ?_); refine goesL_ (some 17) rfl rfl Try.func93 (by kernel_rfl) rfl #[.string t358] rfl q74_ ?_; (with_reducible refine (spec_l3Hole.calls k t358 t359 t360 _ A8.out).mono ?_); rintro e w41 ⟨rfl, hb⟩; refine ⟨_, rfl, ?_⟩; have n0_ := Aside0.mk (blk_below (g := gb356) (o := .cells #[.int .i64 a0_0, .bool a0_1, .int .i64 a0_2] 85 (0, 0)) q85_ hb); have n1_ := Aside0.mk (below_step q60_ hb); clear BK356; clear HB; have BK356 := n0_; have HB := n1_; clear n0_ n1_; (try clear hb); have hcz42_0 : w41.cell? ⟨gb356, 0, none⟩ = some (.int .i64 a0_0) := (blk_cell BK356.out 0).trans rfl; have hcz42_1 : w41.cell? ⟨gb356, 1, none⟩ = some (.bool a0_1) := (blk_cell BK356.out 1).trans rfl; have hcz42_2 : w41.cell? ⟨gb356, 2, none⟩ = some (.int .i64 a0_2) := (blk_cell BK356.out 2).trans rfl; have hfz42_0 := blk_frozen BK356.out 0; have hfz42_1 := blk_frozen BK356.out 1; have hfz42_2 := blk_frozen BK356.out 2))
     go_ret
     exact ⟨q76_, q60_⟩
def spec_InsBytes.f (k : Nat) (a0_0 : Int) (a0_1 : Bool) (a0_2 : Int) : Option (ByteArray) := (spec_InsOk.f k a0_0 a0_1 a0_2).bind fun t365 => (if t365 = true then (if a0_1 = true then (some (strOfNums (([203, (a0_0) % 256] : List Int)))) else ((spec_l3Length.f k a0_0 false).bind fun t369 => (if t369 = 2 then (some (strOfNums (([(a0_0) % 256, (a0_2) % 256] : List Int)))) else (if t369 = 3 then (some (strOfNums (([(a0_0) % 256, (a0_2) % 256, (a0_2 / 256) % 256] : List Int)))) else (some (strOfNums (([(a0_0) % 256] : List Int)))))))) else (some (⟨#[]⟩ : ByteArray)))
theorem spec_InsBytes.mono : ∀ a0 a1 a2 k, LeO (spec_InsBytes.f k a0 a1 a2) (spec_InsBytes.f (k + 1) a0 a1 a2) := by
 intro a0 a1 a2 k
 unfold spec_InsBytes.f
 repeat' first
   | (with_reducible first | exact spec_InsOk.mono _ _ _ _ | exact spec_l3Length.mono _ _ _ | exact LeO.refl _ | exact LeO.none _ | refine LeO.ite ?_ ?_ | refine LeO.bind ?_ (fun _ => ?_))
   | exact spec_InsOk.mono _ _ _ _
   | exact spec_l3Length.mono _ _ _
   | exact LeO.none _
   | refine LeO.ite ?_ ?_
   | refine LeO.bind ?_ (fun _ => ?_)
theorem spec_InsBytes.calls (k : Nat) (a0_0 : Int) (a0_1 : Bool) (a0_2 : Int) (r : ByteArray) (w : World) (h : spec_InsBytes.f k a0_0 a0_1 a0_2 = some r) :
  Calls Try.prog 79 #[.agg #[.int .i64 a0_0, .bool a0_1, .int .i64 a0_2]] w fun e w' => e = .returned (.string r) ∧ Below w.heap.size w w' := by
 have hu85 := Try.underlying85
 have HB := Aside0.mk (Below.refl w.heap.size w)
 have H : ((spec_InsOk.f k a0_0 a0_1 a0_2).bind fun t365 => (if t365 = true then (if a0_1 = true then (some (strOfNums (([203, (a0_0) % 256] : List Int)))) else ((spec_l3Length.f k a0_0 false).bind fun t369 => (if t369 = 2 then (some (strOfNums (([(a0_0) % 256, (a0_2) % 256] : List Int)))) else (if t369 = 3 then (some (strOfNums (([(a0_0) % 256, (a0_2) % 256, (a0_2 / 256) % 256] : List Int)))) else (some (strOfNums (([(a0_0) % 256] : List Int)))))))) else (some (⟨#[]⟩ : ByteArray)))) = some r := h
 clear h
 replace H := Option.bind_eq_some_iff.mp H
 obtain ⟨t365, A20, H⟩ := H
 have A2 := Aside0.mk A20
 clear A20
 by_cases c3 : t365 = true
 ·subst c3
  replace H : (if a0_1 = true then (some (strOfNums (([203, (a0_0) % 256] : List Int)))) else ((spec_l3Length.f k a0_0 false).bind fun t369 => (if t369 = 2 then (some (strOfNums (([(a0_0) % 256, (a0_2) % 256] : List Int)))) else (if t369 = 3 then (some (strOfNums (([(a0_0) % 256, (a0_2) % 256, (a0_2 / 256) % 256] : List Int)))) else (some (strOfNums (([(a0_0) % 256] : List Int)))))))) = some r := by rw [if_pos rfl] at H; exact H
  by_cases c4 : a0_1 = true
  ·subst c4
   replace H : (some (strOfNums (([203, (a0_0) % 256] : List Int)))) = some r := by rw [if_pos rfl] at H; exact H
   obtain ⟨y366, hy366⟩ : ∃ y_ : List Int, y_ = (([203, (a0_0) % 256] : List Int)) := ⟨_, rfl⟩
   replace H : (some (strOfNums y366)) = some r := by first | (rw [hy366]; with_reducible exact H) | (have H2_ := (Option.bind_some _ _).symm.trans H; rw [hy366]; with_reducible exact H2_) | (have H2_ := (Option.bind_some _ _).symm.trans H; with_reducible exact H2_) | with_reducible exact H | (rw [hy366]; exact H) | exact H
   have Ny366 := Aside0.mk hy366
   clear hy366
   obtain rfl := Option.some.inj H
   go_enter Try.func79, Try.ntmps79
   go_wp2_with (first | ((with_reducible refine gate_dst (N := 1) rfl ?_); refine box_event ?hg (N := 1) ?hd (cs := #[.int .i64 a0_0, .bool true, .int .i64 a0_2]) (t := 85) ?hr ?_; (case hd => rfl); (case hg => rfl); (case hr => exact q138_); intro gb364 hg w5 hbox hb; have n0_ := Aside0.mk (below_step q75_ hb); have n1_ := Aside0.mk (hbox); have n2_ := Aside0.mk ((q52_ : w.heap.size ≤ gb364)); have n3_ := Aside0.mk ((q52_ : w.heap.size ≤ gb364)); clear HB; have HB := n0_; have BK364 := n1_; have GW364 := n2_; have GE364 := n3_; clear n0_ n1_ n2_ n3_; clear hb hbox hg; have hcz6_0 : w5.cell? ⟨gb364, 0, none⟩ = some (.int .i64 a0_0) := (blk_cell BK364.out 0).trans rfl; have hcz6_1 : w5.cell? ⟨gb364, 1, none⟩ = some (.bool true) := (blk_cell BK364.out 1).trans rfl; have hcz6_2 : w5.cell? ⟨gb364, 2, none⟩ = some (.int .i64 a0_2) := (blk_cell BK364.out 2).trans rfl; have hfz6_0 := blk_frozen BK364.out 0; have hfz6_1 := blk_frozen BK364.out 1; have hfz6_2 := blk_frozen BK364.out 2) | ((with_reducible refine gate_callee (f := 86) rfl ?_); refine goesL_ (some 4) rfl rfl Try.func86 (by kernel_rfl) rfl #[.agg #[.int .i64 a0_0, .bool true, .int .i64 a0_2]] rfl q74_ ?_; (with_reducible refine (spec_InsOk.calls k a0_0 true a0_2 true _ A2.out).mono ?_); rintro e w7 ⟨rfl, hb⟩; refine ⟨_, rfl, ?_⟩; have n0_ := Aside0.mk (blk_below (g := gb364) (o := .cells #[.int .i64 a0_0, .bool true, .int .i64 a0_2] 85 (0, 0)) q86_ hb); have n1_ := Aside0.mk (below_step q61_ hb); clear BK364; clear HB; have BK364 := n0_; have HB := n1_; clear n0_ n1_; (try clear hb); have hcz8_0 : w7.cell? ⟨gb364, 0, none⟩ = some (.int .i64 a0_0) := (blk_cell BK364.out 0).trans rfl; have hcz8_1 : w7.cell? ⟨gb364, 1, none⟩ = some (.bool true) := (blk_cell BK364.out 1).trans rfl; have hcz8_2 : w7.cell? ⟨gb364, 2, none⟩ = some (.int .i64 a0_2) := (blk_cell BK364.out 2).trans rfl; have hfz8_0 := blk_frozen BK364.out 0; have hfz8_1 := blk_frozen BK364.out 1; have hfz8_2 := blk_frozen BK364.out 2) | ((with_reducible refine gate_dst (N := 11) rfl ?_); refine Kd.R_lit (Kd.int .u8) _ 5 ?hg (N := 11) ?hd (xs := ([203, (a0_0) % 256] : List Int)) (inner := [.int .u8 203, .int .u8 ((a0_0) % 256)]) (ok := fun _ => True) (okp := fun _ => True) ?hr ?hp (fun _ hk => hk) trivial (Below.refl _ _) (Nat.le_refl _) (by simp) ?_; (case hd => rfl); (case hg => rfl); (case hr => exact q138_); (case hp => exact (Reps.one (show Kd.M (Kd.int .u8) _ _ _ 203 [.int .u8 203] from rfl) (Reps.one (show Kd.M (Kd.int .u8) _ _ _ ((a0_0) % 256) [.int .u8 ((a0_0) % 256)] from rfl) (Reps.none _ _)))); intro v367 w9 ho10 hb hg_ hnew_; clear hg_ hnew_; (first | rw [← Ny366.out] at ho10 | (simp only [Int.reduceToNat] at ho10; rw [← Ny366.out] at ho10)); have n0_ := Aside0.mk (Kd.R_lower ho10 (below_size q61_)); have n1_ := Aside0.mk (blk_below (g := gb364) (o := .cells #[.int .i64 a0_0, .bool true, .int .i64 a0_2] 85 (0, 0)) q86_ hb); have n2_ := Aside0.mk (below_step q61_ hb); clear BK364; clear HB; have HO368 := n0_; have BK364 := n1_; have HB := n2_; clear n0_ n1_ n2_; clear hb ho10; have hcv11 := own_string (P := Try.prog) Try.underlying25 Try.underlying5 Try.underlying9 (Kd.own_of_R HO368.out); have hcvq11 := fun m_ : Nat => own_string (P := Try.prog) Try.underlying25 Try.underlying5 Try.underlying9 (Kd.own_of_R (Kd.R_drewN HO368.out m_))))
   go_ret
   exact ⟨q76_, q61_⟩
  ·replace c4 := Bool.eq_false_iff.mpr c4
   subst c4
   replace H : ((spec_l3Length.f k a0_0 false).bind fun t369 => (if t369 = 2 then (some (strOfNums (([(a0_0) % 256, (a0_2) % 256] : List Int)))) else (if t369 = 3 then (some (strOfNums (([(a0_0) % 256, (a0_2) % 256, (a0_2 / 256) % 256] : List Int)))) else (some (strOfNums (([(a0_0) % 256] : List Int))))))) = some r := by rw [if_neg (show ¬ (false = true) by decide)] at H; exact H
   replace H := Option.bind_eq_some_iff.mp H
   obtain ⟨t369, A120, H⟩ := H
   have A12 := Aside0.mk A120
   clear A120
   by_cases c13 : t369 = 2
   ·rw [if_pos c13] at H
    have c13b0 : (t369 == 2) = true := beq_iff_eq.mpr c13
    have c13b1 : (t369 != 2) = false := bne_eq_false_iff_eq.mpr c13
    clear c13
    obtain ⟨y370, hy370⟩ : ∃ y_ : List Int, y_ = (([(a0_0) % 256, (a0_2) % 256] : List Int)) := ⟨_, rfl⟩
    replace H : (some (strOfNums y370)) = some r := by first | (rw [hy370]; with_reducible exact H) | (have H2_ := (Option.bind_some _ _).symm.trans H; rw [hy370]; with_reducible exact H2_) | (have H2_ := (Option.bind_some _ _).symm.trans H; with_reducible exact H2_) | with_reducible exact H | (rw [hy370]; exact H) | exact H
    have Ny370 := Aside0.mk hy370
    clear hy370
    obtain rfl := Option.some.inj H
    go_enter Try.func79, Try.ntmps79
    go_wp2_with (first | ((with_reducible refine gate_dst (N := 1) rfl ?_); refine box_event ?hg (N := 1) ?hd (cs := #[.int .i64 a0_0, .bool false, .int .i64 a0_2]) (t := 85) ?hr ?_; (case hd => rfl); (case hg => rfl); (case hr => exact q138_); intro gb364 hg w14 hbox hb; have n0_ := Aside0.mk (below_step q75_ hb); have n1_ := Aside0.mk (hbox); have n2_ := Aside0.mk ((q52_ : w.heap.size ≤ gb364)); have n3_ := Aside0.mk ((q52_ : w.heap.size ≤ gb364)); clear HB; have HB := n0_; have BK364 := n1_; have GW364 := n2_; have GE364 := n3_; clear n0_ n1_ n2_ n3_; clear hb hbox hg; have hcz15_0 : w14.cell? ⟨gb364, 0, none⟩ = some (.int .i64 a0_0) := (blk_cell BK364.out 0).trans rfl; have hcz15_1 : w14.cell? ⟨gb364, 1, none⟩ = some (.bool false) := (blk_cell BK364.out 1).trans rfl; have hcz15_2 : w14.cell? ⟨gb364, 2, none⟩ = some (.int .i64 a0_2) := (blk_cell BK364.out 2).trans rfl; have hfz15_0 := blk_frozen BK364.out 0; have hfz15_1 := blk_frozen BK364.out 1; have hfz15_2 := blk_frozen BK364.out 2) | ((with_reducible refine gate_callee (f := 86) rfl ?_); refine goesL_ (some 4) rfl rfl Try.func86 (by kernel_rfl) rfl #[.agg #[.int .i64 a0_0, .bool false, .int .i64 a0_2]] rfl q74_ ?_; (with_reducible refine (spec_InsOk.calls k a0_0 false a0_2 true _ A2.out).mono ?_); rintro e w16 ⟨rfl, hb⟩; refine ⟨_, rfl, ?_⟩; have n0_ := Aside0.mk (blk_below (g := gb364) (o := .cells #[.int .i64 a0_0, .bool false, .int .i64 a0_2] 85 (0, 0)) q86_ hb); have n1_ := Aside0.mk (below_step q61_ hb); clear BK364; clear HB; have BK364 := n0_; have HB := n1_; clear n0_ n1_; (try clear hb); have hcz17_0 : w16.cell? ⟨gb364, 0, none⟩ = some (.int .i64 a0_0) := (blk_cell BK364.out 0).trans rfl; have hcz17_1 : w16.cell? ⟨gb364, 1, none⟩ = some (.bool false) := (blk_cell BK364.out 1).trans rfl; have hcz17_2 : w16.cell? ⟨gb364, 2, none⟩ = some (.int .i64 a0_2) := (blk_cell BK364.out 2).trans rfl; have hfz17_0 := blk_frozen BK364.out 0; have hfz17_1 := blk_frozen BK364.out 1; have hfz17_2 := blk_frozen BK364.out 2) | ((with_reducible refine gate_callee (f := 87) rfl ?_); refine goesL_ (some 15) rfl rfl Try.func87 (by kernel_rfl) rfl #[.int .i64 a0_0, .bool false] rfl q74_ ?_; (with_reducible refine (spec_l3Length.calls k a0_0 false t369 _ A12.out).mono ?_); rintro e w18 ⟨rfl, hb⟩; refine ⟨_, rfl, ?_⟩; have n0_ := Aside0.mk (blk_below (g := gb364) (o := .cells #[.int .i64 a0_0, .bool false, .int .i64 a0_2] 85 (0, 0)) q86_ hb); have n1_ := Aside0.mk (below_step q61_ hb); clear BK364; clear HB; have BK364 := n0_; have HB := n1_; clear n0_ n1_; (try clear hb); have hcz19_0 : w18.cell? ⟨gb364, 0, none⟩ = some (.int .i64 a0_0) := (blk_cell BK364.out 0).trans rfl; have hcz19_1 : w18.cell? ⟨gb364, 1, none⟩ = some (.bool false) := (blk_cell BK364.out 1).trans rfl; have hcz19_2 : w18.cell? ⟨gb364, 2, none⟩ = some (.int .i64 a0_2) := (blk_cell BK364.out 2).trans rfl; have hfz19_0 := blk_frozen BK364.out 0; have hfz19_1 := blk_frozen BK364.out 1; have hfz19_2 := blk_frozen BK364.out 2) | ((with_reducible refine gate_dst (N := 24) rfl ?_); refine Kd.R_lit (Kd.int .u8) _ 5 ?hg (N := 24) ?hd (xs := ([(a0_0) % 256, (a0_2) % 256] : List Int)) (inner := [.int .u8 ((a0_0) % 256), .int .u8 ((a0_2) % 256)]) (ok := fun _ => True) (okp := fun _ => True) ?hr ?hp (fun _ hk => hk) trivial (Below.refl _ _) (Nat.le_refl _) (by simp) ?_; (case hd => rfl); (case hg => rfl); (case hr => exact q138_); (case hp => exact (Reps.one (show Kd.M (Kd.int .u8) _ _ _ ((a0_0) % 256) [.int .u8 ((a0_0) % 256)] from rfl) (Reps.one (show Kd.M (Kd.int .u8) _ _ _ ((a0_2) % 256) [.int .u8 ((a0_2) % 256)] from rfl) (Reps.none _ _)))); intro v371 w20 ho21 hb hg_ hnew_; clear hg_ hnew_; (first | rw [← Ny370.out] at ho21 | (simp only [Int.reduceToNat] at ho21; rw [← Ny370.out] at ho21)); have n0_ := Aside0.mk (Kd.R_lower ho21 (below_size q61_)); have n1_ := Aside0.mk (blk_below (g := gb364) (o := .cells #[.int .i64 a0_0, .bool false, .int .i64 a0_2] 85 (0, 0)) q86_ hb); have n2_ := Aside0.mk (below_step q61_ hb); clear BK364; clear HB; have HO372 := n0_; have BK364 := n1_; have HB := n2_; clear n0_ n1_ n2_; clear hb ho21; have hcv22 := own_string (P := Try.prog) Try.underlying25 Try.underlying5 Try.underlying9 (Kd.own_of_R HO372.out); have hcvq22 := fun m_ : Nat => own_string (P := Try.prog) Try.underlying25 Try.underlying5 Try.underlying9 (Kd.own_of_R (Kd.R_drewN HO372.out m_))))
    go_ret
    exact ⟨q76_, q61_⟩
   ·rw [if_neg c13] at H
    have c13b0 : (t369 == 2) = false := beq_eq_false_iff_ne.mpr c13
    have c13b1 : (t369 != 2) = true := bne_iff_ne.mpr c13
    by_cases c23 : t369 = 3
    ·rw [if_pos c23] at H
     have c23b0 : (t369 == 3) = true := beq_iff_eq.mpr c23
     have c23b1 : (t369 != 3) = false := bne_eq_false_iff_eq.mpr c23
     clear c23
     obtain ⟨y373, hy373⟩ : ∃ y_ : List Int, y_ = (([(a0_0) % 256, (a0_2) % 256, (a0_2 / 256) % 256] : List Int)) := ⟨_, rfl⟩
     replace H : (some (strOfNums y373)) = some r := by first | (rw [hy373]; with_reducible exact H) | (have H2_ := (Option.bind_some _ _).symm.trans H; rw [hy373]; with_reducible exact H2_) | (have H2_ := (Option.bind_some _ _).symm.trans H; with_reducible exact H2_) | with_reducible exact H | (rw [hy373]; exact H) | exact H
     have Ny373 := Aside0.mk hy373
     clear hy373
     obtain rfl := Option.some.inj H
     go_enter Try.func79, Try.ntmps79
     go_wp2_with (first | ((with_reducible refine gate_dst (N := 1) rfl ?_); refine box_event ?hg (N := 1) ?hd (cs := #[.int .i64 a0_0, .bool false, .int .i64 a0_2]) (t := 85) ?hr ?_; (case hd => rfl); (case hg => rfl); (case hr => exact q138_); intro gb364 hg w24 hbox hb; have n0_ := Aside0.mk (below_step q75_ hb); have n1_ := Aside0.mk (hbox); have n2_ := Aside0.mk ((q52_ : w.heap.size ≤ gb364)); have n3_ := Aside0.mk ((q52_ : w.heap.size ≤ gb364)); clear HB; have HB := n0_; have BK364 := n1_; have GW364 := n2_; have GE364 := n3_; clear n0_ n1_ n2_ n3_; clear hb hbox hg; have hcz25_0 : w24.cell? ⟨gb364, 0, none⟩ = some (.int .i64 a0_0) := (blk_cell BK364.out 0).trans rfl; have hcz25_1 : w24.cell? ⟨gb364, 1, none⟩ = some (.bool false) := (blk_cell BK364.out 1).trans rfl; have hcz25_2 : w24.cell? ⟨gb364, 2, none⟩ = some (.int .i64 a0_2) := (blk_cell BK364.out 2).trans rfl; have hfz25_0 := blk_frozen BK364.out 0; have hfz25_1 := blk_frozen BK364.out 1; have hfz25_2 := blk_frozen BK364.out 2) | ((with_reducible refine gate_callee (f := 86) rfl ?_); refine goesL_ (some 4) rfl rfl Try.func86 (by kernel_rfl) rfl #[.agg #[.int .i64 a0_0, .bool false, .int .i64 a0_2]] rfl q74_ ?_; (with_reducible refine (spec_InsOk.calls k a0_0 false a0_2 true _ A2.out).mono ?_); rintro e w26 ⟨rfl, hb⟩; refine ⟨_, rfl, ?_⟩; have n0_ := Aside0.mk (blk_below (g := gb364) (o := .cells #[.int .i64 a0_0, .bool false, .int .i64 a0_2] 85 (0, 0)) q86_ hb); have n1_ := Aside0.mk (below_step q61_ hb); clear BK364; clear HB; have BK364 := n0_; have HB := n1_; clear n0_ n1_; (try clear hb); have hcz27_0 : w26.cell? ⟨gb364, 0, none⟩ = some (.int .i64 a0_0) := (blk_cell BK364.out 0).trans rfl; have hcz27_1 : w26.cell? ⟨gb364, 1, none⟩ = some (.bool false) := (blk_cell BK364.out 1).trans rfl; have hcz27_2 : w26.cell? ⟨gb364, 2, none⟩ = some (.int .i64 a0_2) := (blk_cell BK364.out 2).trans rfl; have hfz27_0 := blk_frozen BK364.out 0; have hfz27_1 := blk_frozen BK364.out 1; have hfz27_2 := blk_frozen BK364.out 2) | ((with_reducible refine gate_callee (f := 87) rfl ?_); refine goesL_ (some 15) rfl rfl Try.func87 (by kernel_rfl) rfl #[.int .i64 a0_0, .bool false] rfl q74_ ?_; (with_reducible refine (spec_l3Length.calls k a0_0 false t369 _ A12.out).mono ?_); rintro e w28 ⟨rfl, hb⟩; refine ⟨_, rfl, ?_⟩; have n0_ := Aside0.mk (blk_below (g := gb364) (o := .cells #[.int .i64 a0_0, .bool false, .int .i64 a0_2] 85 (0, 0)) q86_ hb); have n1_ := Aside0.mk (below_step q61_ hb); clear BK364; clear HB; have BK364 := n0_; have HB := n1_; clear n0_ n1_; (try clear hb); have hcz29_0 : w28.cell? ⟨gb364, 0, none⟩ = some (.int .i64 a0_0) := (blk_cell BK364.out 0).trans rfl; have hcz29_1 : w28.cell? ⟨gb364, 1, none⟩ = some (.bool false) := (blk_cell BK364.out 1).trans rfl; have hcz29_2 : w28.cell? ⟨gb364, 2, none⟩ = some (.int .i64 a0_2) := (blk_cell BK364.out 2).trans rfl; have hfz29_0 := blk_frozen BK364.out 0; have hfz29_1 := blk_frozen BK364.out 1; have hfz29_2 := blk_frozen BK364.out 2) | ((with_reducible refine gate_dst (N := 38) rfl ?_); refine Kd.R_lit (Kd.int .u8) _ 5 ?hg (N := 38) ?hd (xs := ([(a0_0) % 256, (a0_2) % 256, (a0_2 / 256) % 256] : List Int)) (inner := [.int .u8 ((a0_0) % 256), .int .u8 ((a0_2) % 256), .int .u8 ((a0_2 / 256) % 256)]) (ok := fun _ => True) (okp := fun _ => True) ?hr ?hp (fun _ hk => hk) trivial (Below.refl _ _) (Nat.le_refl _) (by simp) ?_; (case hd => rfl); (case hg => rfl); (case hr => exact q138_); (case hp => exact (Reps.one (show Kd.M (Kd.int .u8) _ _ _ ((a0_0) % 256) [.int .u8 ((a0_0) % 256)] from rfl) (Reps.one (show Kd.M (Kd.int .u8) _ _ _ ((a0_2) % 256) [.int .u8 ((a0_2) % 256)] from rfl) (Reps.one (show Kd.M (Kd.int .u8) _ _ _ ((a0_2 / 256) % 256) [.int .u8 ((a0_2 / 256) % 256)] from rfl) (Reps.none _ _))))); intro v374 w30 ho31 hb hg_ hnew_; clear hg_ hnew_; (first | rw [← Ny373.out] at ho31 | (simp only [Int.reduceToNat] at ho31; rw [← Ny373.out] at ho31)); have n0_ := Aside0.mk (Kd.R_lower ho31 (below_size q61_)); have n1_ := Aside0.mk (blk_below (g := gb364) (o := .cells #[.int .i64 a0_0, .bool false, .int .i64 a0_2] 85 (0, 0)) q86_ hb); have n2_ := Aside0.mk (below_step q61_ hb); clear BK364; clear HB; have HO375 := n0_; have BK364 := n1_; have HB := n2_; clear n0_ n1_ n2_; clear hb ho31; have hcv32 := own_string (P := Try.prog) Try.underlying25 Try.underlying5 Try.underlying9 (Kd.own_of_R HO375.out); have hcvq32 := fun m_ : Nat => own_string (P := Try.prog) Try.underlying25 Try.underlying5 Try.underlying9 (Kd.own_of_R (Kd.R_drewN HO375.out m_))))
     go_ret
     exact ⟨q76_, q61_⟩
    ·rw [if_neg c23] at H
     have c23b0 : (t369 == 3) = false := beq_eq_false_iff_ne.mpr c23
     have c23b1 : (t369 != 3) = true := bne_iff_ne.mpr c23
     obtain ⟨y376, hy376⟩ : ∃ y_ : List Int, y_ = (([(a0_0) % 256] : List Int)) := ⟨_, rfl⟩
     replace H : (some (strOfNums y376)) = some r := by first | (rw [hy376]; with_reducible exact H) | (have H2_ := (Option.bind_some _ _).symm.trans H; rw [hy376]; with_reducible exact H2_) | (have H2_ := (Option.bind_some _ _).symm.trans H; with_reducible exact H2_) | with_reducible exact H | (rw [hy376]; exact H) | exact H
     have Ny376 := Aside0.mk hy376
     clear hy376
     obtain rfl := Option.some.inj H
     go_enter Try.func79, Try.ntmps79
     go_wp2_with (first | ((with_reducible refine gate_dst (N := 1) rfl ?_); refine box_event ?hg (N := 1) ?hd (cs := #[.int .i64 a0_0, .bool false, .int .i64 a0_2]) (t := 85) ?hr ?_; (case hd => rfl); (case hg => rfl); (case hr => exact q138_); intro gb364 hg w33 hbox hb; have n0_ := Aside0.mk (below_step q75_ hb); have n1_ := Aside0.mk (hbox); have n2_ := Aside0.mk ((q52_ : w.heap.size ≤ gb364)); have n3_ := Aside0.mk ((q52_ : w.heap.size ≤ gb364)); clear HB; have HB := n0_; have BK364 := n1_; have GW364 := n2_; have GE364 := n3_; clear n0_ n1_ n2_ n3_; clear hb hbox hg; have hcz34_0 : w33.cell? ⟨gb364, 0, none⟩ = some (.int .i64 a0_0) := (blk_cell BK364.out 0).trans rfl; have hcz34_1 : w33.cell? ⟨gb364, 1, none⟩ = some (.bool false) := (blk_cell BK364.out 1).trans rfl; have hcz34_2 : w33.cell? ⟨gb364, 2, none⟩ = some (.int .i64 a0_2) := (blk_cell BK364.out 2).trans rfl; have hfz34_0 := blk_frozen BK364.out 0; have hfz34_1 := blk_frozen BK364.out 1; have hfz34_2 := blk_frozen BK364.out 2) | ((with_reducible refine gate_callee (f := 86) rfl ?_); refine goesL_ (some 4) rfl rfl Try.func86 (by kernel_rfl) rfl #[.agg #[.int .i64 a0_0, .bool false, .int .i64 a0_2]] rfl q74_ ?_; (with_reducible refine (spec_InsOk.calls k a0_0 false a0_2 true _ A2.out).mono ?_); rintro e w35 ⟨rfl, hb⟩; refine ⟨_, rfl, ?_⟩; have n0_ := Aside0.mk (blk_below (g := gb364) (o := .cells #[.int .i64 a0_0, .bool false, .int .i64 a0_2] 85 (0, 0)) q86_ hb); have n1_ := Aside0.mk (below_step q61_ hb); clear BK364; clear HB; have BK364 := n0_; have HB := n1_; clear n0_ n1_; (try clear hb); have hcz36_0 : w35.cell? ⟨gb364, 0, none⟩ = some (.int .i64 a0_0) := (blk_cell BK364.out 0).trans rfl; have hcz36_1 : w35.cell? ⟨gb364, 1, none⟩ = some (.bool false) := (blk_cell BK364.out 1).trans rfl; have hcz36_2 : w35.cell? ⟨gb364, 2, none⟩ = some (.int .i64 a0_2) := (blk_cell BK364.out 2).trans rfl; have hfz36_0 := blk_frozen BK364.out 0; have hfz36_1 := blk_frozen BK364.out 1; have hfz36_2 := blk_frozen BK364.out 2) | ((with_reducible refine gate_callee (f := 87) rfl ?_); refine goesL_ (some 15) rfl rfl Try.func87 (by kernel_rfl) rfl #[.int .i64 a0_0, .bool false] rfl q74_ ?_; (with_reducible refine (spec_l3Length.calls k a0_0 false t369 _ A12.out).mono ?_); rintro e w37 ⟨rfl, hb⟩; refine ⟨_, rfl, ?_⟩; have n0_ := Aside0.mk (blk_below (g := gb364) (o := .cells #[.int .i64 a0_0, .bool false, .int .i64 a0_2] 85 (0, 0)) q86_ hb); have n1_ := Aside0.mk (below_step q61_ hb); clear BK364; clear HB; have BK364 := n0_; have HB := n1_; clear n0_ n1_; (try clear hb); have hcz38_0 : w37.cell? ⟨gb364, 0, none⟩ = some (.int .i64 a0_0) := (blk_cell BK364.out 0).trans rfl; have hcz38_1 : w37.cell? ⟨gb364, 1, none⟩ = some (.bool false) := (blk_cell BK364.out 1).trans rfl; have hcz38_2 : w37.cell? ⟨gb364, 2, none⟩ = some (.int .i64 a0_2) := (blk_cell BK364.out 2).trans rfl; have hfz38_0 := blk_frozen BK364.out 0; have hfz38_1 := blk_frozen BK364.out 1; have hfz38_2 := blk_frozen BK364.out 2) | ((with_reducible refine gate_dst (N := 43) rfl ?_); refine Kd.R_lit (Kd.int .u8) _ 5 ?hg (N := 43) ?hd (xs := ([(a0_0) % 256] : List Int)) (inner := [.int .u8 ((a0_0) % 256)]) (ok := fun _ => True) (okp := fun _ => True) ?hr ?hp (fun _ hk => hk) trivial (Below.refl _ _) (Nat.le_refl _) (by simp) ?_; (case hd => rfl); (case hg => rfl); (case hr => exact q138_); (case hp => exact (Reps.one (show Kd.M (Kd.int .u8) _ _ _ ((a0_0) % 256) [.int .u8 ((a0_0) % 256)] from rfl) (Reps.none _ _))); intro v377 w39 ho40 hb hg_ hnew_; clear hg_ hnew_; (first | rw [← Ny376.out] at ho40 | (simp only [Int.reduceToNat] at ho40; rw [← Ny376.out] at ho40)); have n0_ := Aside0.mk (Kd.R_lower ho40 (below_size q61_)); have n1_ := Aside0.mk (blk_below (g := gb364) (o := .cells #[.int .i64 a0_0, .bool false, .int .i64 a0_2] 85 (0, 0)) q86_ hb); have n2_ := Aside0.mk (below_step q61_ hb); clear BK364; clear HB; have HO378 := n0_; have BK364 := n1_; have HB := n2_; clear n0_ n1_ n2_; clear hb ho40; have hcv41 := own_string (P := Try.prog) Try.underlying25 Try.underlying5 Try.underlying9 (Kd.own_of_R HO378.out); have hcvq41 := fun m_ : Nat => own_string (P := Try.prog) Try.underlying25 Try.underlying5 Try.underlying9 (Kd.own_of_R (Kd.R_drewN HO378.out m_))))
     go_ret
     exact ⟨q76_, q61_⟩
 ·replace c3 := Bool.eq_false_iff.mpr c3
  subst c3
  replace H : (some (⟨#[]⟩ : ByteArray)) = some r := by rw [if_neg (show ¬ (false = true) by decide)] at H; exact H
  obtain rfl := Option.some.inj H
  go_enter Try.func79, Try.ntmps79
  go_wp2_with (first | ((with_reducible refine gate_dst (N := 1) rfl ?_); refine box_event ?hg (N := 1) ?hd (cs := #[.int .i64 a0_0, .bool a0_1, .int .i64 a0_2]) (t := 85) ?hr ?_; (case hd => rfl); (case hg => rfl); (case hr => exact q138_); intro gb364 hg w42 hbox hb; have n0_ := Aside0.mk (below_step q75_ hb); have n1_ := Aside0.mk (hbox); have n2_ := Aside0.mk ((q52_ : w.heap.size ≤ gb364)); have n3_ := Aside0.mk ((q52_ : w.heap.size ≤ gb364)); clear HB; have HB := n0_; have BK364 := n1_; have GW364 := n2_; have GE364 := n3_; clear n0_ n1_ n2_ n3_; clear hb hbox hg; have hcz43_0 : w42.cell? ⟨gb364, 0, none⟩ = some (.int .i64 a0_0) := (blk_cell BK364.out 0).trans rfl; have hcz43_1 : w42.cell? ⟨gb364, 1, none⟩ = some (.bool a0_1) := (blk_cell BK364.out 1).trans rfl; have hcz43_2 : w42.cell? ⟨gb364, 2, none⟩ = some (.int .i64 a0_2) := (blk_cell BK364.out 2).trans rfl; have hfz43_0 := blk_frozen BK364.out 0; have hfz43_1 := blk_frozen BK364.out 1; have hfz43_2 := blk_frozen BK364.out 2) | ((with_reducible refine gate_callee (f := 86) rfl ?_); refine goesL_ (some 4) rfl rfl Try.func86 (by kernel_rfl) rfl #[.agg #[.int .i64 a0_0, .bool a0_1, .int .i64 a0_2]] rfl q74_ ?_; (with_reducible refine (spec_InsOk.calls k a0_0 a0_1 a0_2 false _ A2.out).mono ?_); rintro e w44 ⟨rfl, hb⟩; refine ⟨_, rfl, ?_⟩; have n0_ := Aside0.mk (blk_below (g := gb364) (o := .cells #[.int .i64 a0_0, .bool a0_1, .int .i64 a0_2] 85 (0, 0)) q86_ hb); have n1_ := Aside0.mk (below_step q61_ hb); clear BK364; clear HB; have BK364 := n0_; have HB := n1_; clear n0_ n1_; (try clear hb)))
  go_ret
  exact ⟨q76_, q61_⟩
def spec_l1Rd_ins.j0 : Nat → List Int → Int → Int → Bool → Int → Option (Int × Bool × Int × Int)
 | 0, _, _, _, _, _ => none
 | k + 1, x1000, x1001, x385000, x385001, x385002 => (spec_l1Rd_once.f x1000 x1001 40).bind fun bt394 => (if bt394.1 = true then ((spec_l1Rd_off.f k x1000 bt394.2 0 255).bind fun bt396 => (some (x385000, x385001, bt396.1, bt396.2))) else (some (x385000, x385001, x385002, bt394.2)))
def spec_l1Rd_ins.f (k : Nat) (s0_0 : List Int) (s0_1 : Int) : Option (Int × Bool × Int × Int) := (spec_l1Rd_below.f s0_0 s0_1 256).bind fun bt380 => ((spec_l1Rd_once.f s0_0 bt380.2 4).bind fun bt382 => ((spec_l3Template.f k bt380.1 bt382.1).bind fun t385 => ((spec_l3Hole.f k t385).bind fun bt386 => (if bt386.2.toList = ([110, 49, 54] : List UInt8) then ((spec_l1Rd_below.f s0_0 bt382.2 65536).bind fun bt388 => (spec_l1Rd_ins.j0 k s0_0 bt388.2 bt380.1 bt382.1 bt388.1)) else (if bt386.2.toList = ([110, 56] : List UInt8) then ((spec_l1Rd_byte.f s0_0 bt382.2).bind fun bt390 => (spec_l1Rd_ins.j0 k s0_0 bt390.2 bt380.1 bt382.1 bt390.1)) else (if bt386.2.toList = ([101, 56] : List UInt8) then ((spec_l1Rd_byte.f s0_0 bt382.2).bind fun bt392 => (spec_l1Rd_ins.j0 k s0_0 bt392.2 bt380.1 bt382.1 bt392.1)) else (spec_l1Rd_ins.j0 k s0_0 bt382.2 bt380.1 bt382.1 0)))))))
theorem spec_l1Rd_ins.mono_l : ∀ k, (∀ y0 y1 y2 y3 y4, LeO (spec_l1Rd_ins.j0 k y0 y1 y2 y3 y4) (spec_l1Rd_ins.j0 (k + 1) y0 y1 y2 y3 y4))
 | 0 => fun _ _ _ _ _ r h => by simp [spec_l1Rd_ins.j0] at h
 | k + 1 => by
  have ih0 := spec_l1Rd_ins.mono_l k
  ·intro y0 y1 y2 y3 y4
   unfold spec_l1Rd_ins.j0
   repeat' first
   | (with_reducible first | exact ih0 _ _ _ _ _ | exact spec_l1Rd_off.mono _ _ _ _ _ | exact spec_l3Hole.mono _ _ | exact spec_l3Template.mono _ _ _ | exact LeO.refl _ | exact LeO.none _ | refine LeO.ite ?_ ?_ | refine LeO.bind ?_ (fun _ => ?_))
   | exact ih0 _ _ _ _ _
   | exact spec_l1Rd_off.mono _ _ _ _ _
   | exact spec_l3Hole.mono _ _
   | exact spec_l3Template.mono _ _ _
   | exact LeO.none _
   | refine LeO.ite ?_ ?_
   | refine LeO.bind ?_ (fun _ => ?_)
theorem spec_l1Rd_ins.mono : ∀ a0 a1 k, LeO (spec_l1Rd_ins.f k a0 a1) (spec_l1Rd_ins.f (k + 1) a0 a1) := by
 intro a0 a1 k
 have ih0 := spec_l1Rd_ins.mono_l k
 unfold spec_l1Rd_ins.f
 repeat' first
   | (with_reducible first | exact ih0 _ _ _ _ _ | exact spec_l1Rd_off.mono _ _ _ _ _ | exact spec_l3Hole.mono _ _ | exact spec_l3Template.mono _ _ _ | exact LeO.refl _ | exact LeO.none _ | refine LeO.ite ?_ ?_ | refine LeO.bind ?_ (fun _ => ?_))
   | exact ih0 _ _ _ _ _
   | exact spec_l1Rd_off.mono _ _ _ _ _
   | exact spec_l3Hole.mono _ _
   | exact spec_l3Template.mono _ _ _
   | exact LeO.none _
   | refine LeO.ite ?_ ?_
   | refine LeO.bind ?_ (fun _ => ?_)
theorem spec_l1Rd_ins.calls (k : Nat) (g : Nat) (s0_0 : List Int) (s0_1 : Int) (r1 : Int) (r2 : Bool) (r3 : Int) (r4 : Int) (w0 w : World) (hI : IsS78 w0 w g s0_0 s0_1) (hB : Below w0.heap.size w0 w) (h : spec_l1Rd_ins.f k s0_0 s0_1 = some (r1, r2, r3, r4)) :
  Calls Try.prog 88 #[.pointer (some ⟨g, 0, none⟩)] w fun e w' => e = .returned (.agg #[.int .i64 r1, .bool r2, .int .i64 r3]) ∧ IsS78 w0 w' g s0_0 r4 ∧ Below w0.heap.size w0 w' ∧ KeepBut w w' g none := by
 have hu85 := Try.underlying85
 have HI0 := Aside0.mk hI
 have HK := Aside0.mk (KeepBut.refl w g none)
 have HL := Aside0.mk hB.size
 clear hI
 have HW0 := Aside0.mk hB.size
 have HB := Aside0.mk hB
 clear hB
 have H : ((spec_l1Rd_below.f s0_0 s0_1 256).bind fun bt380 => ((spec_l1Rd_once.f s0_0 bt380.2 4).bind fun bt382 => ((spec_l3Template.f k bt380.1 bt382.1).bind fun t385 => ((spec_l3Hole.f k t385).bind fun bt386 => (if bt386.2.toList = ([110, 49, 54] : List UInt8) then ((spec_l1Rd_below.f s0_0 bt382.2 65536).bind fun bt388 => (spec_l1Rd_ins.j0 k s0_0 bt388.2 bt380.1 bt382.1 bt388.1)) else (if bt386.2.toList = ([110, 56] : List UInt8) then ((spec_l1Rd_byte.f s0_0 bt382.2).bind fun bt390 => (spec_l1Rd_ins.j0 k s0_0 bt390.2 bt380.1 bt382.1 bt390.1)) else (if bt386.2.toList = ([101, 56] : List UInt8) then ((spec_l1Rd_byte.f s0_0 bt382.2).bind fun bt392 => (spec_l1Rd_ins.j0 k s0_0 bt392.2 bt380.1 bt382.1 bt392.1)) else (spec_l1Rd_ins.j0 k s0_0 bt382.2 bt380.1 bt382.1 0)))))))) = some (r1, r2, r3, r4) := h
 clear h
 replace H := Option.bind_eq_some_iff.mp H
 obtain ⟨⟨t380, t381⟩, A20, H⟩ := H
 replace H : ((spec_l1Rd_once.f s0_0 t381 4).bind fun bt382 => ((spec_l3Template.f k t380 bt382.1).bind fun t385 => ((spec_l3Hole.f k t385).bind fun bt386 => (if bt386.2.toList = ([110, 49, 54] : List UInt8) then ((spec_l1Rd_below.f s0_0 bt382.2 65536).bind fun bt388 => (spec_l1Rd_ins.j0 k s0_0 bt388.2 t380 bt382.1 bt388.1)) else (if bt386.2.toList = ([110, 56] : List UInt8) then ((spec_l1Rd_byte.f s0_0 bt382.2).bind fun bt390 => (spec_l1Rd_ins.j0 k s0_0 bt390.2 t380 bt382.1 bt390.1)) else (if bt386.2.toList = ([101, 56] : List UInt8) then ((spec_l1Rd_byte.f s0_0 bt382.2).bind fun bt392 => (spec_l1Rd_ins.j0 k s0_0 bt392.2 t380 bt382.1 bt392.1)) else (spec_l1Rd_ins.j0 k s0_0 bt382.2 t380 bt382.1 0))))))) = some (r1, r2, r3, r4) := H
 have A2 := Aside0.mk A20
 clear A20
 replace H := Option.bind_eq_some_iff.mp H
 obtain ⟨⟨t382, t383⟩, A30, H⟩ := H
 replace H : ((spec_l3Template.f k t380 t382).bind fun t385 => ((spec_l3Hole.f k t385).bind fun bt386 => (if bt386.2.toList = ([110, 49, 54] : List UInt8) then ((spec_l1Rd_below.f s0_0 t383 65536).bind fun bt388 => (spec_l1Rd_ins.j0 k s0_0 bt388.2 t380 t382 bt388.1)) else (if bt386.2.toList = ([110, 56] : List UInt8) then ((spec_l1Rd_byte.f s0_0 t383).bind fun bt390 => (spec_l1Rd_ins.j0 k s0_0 bt390.2 t380 t382 bt390.1)) else (if bt386.2.toList = ([101, 56] : List UInt8) then ((spec_l1Rd_byte.f s0_0 t383).bind fun bt392 => (spec_l1Rd_ins.j0 k s0_0 bt392.2 t380 t382 bt392.1)) else (spec_l1Rd_ins.j0 k s0_0 t383 t380 t382 0)))))) = some (r1, r2, r3, r4) := H
 have A3 := Aside0.mk A30
 clear A30
 replace H := Option.bind_eq_some_iff.mp H
 obtain ⟨t385, A40, H⟩ := H
 have A4 := Aside0.mk A40
 clear A40
 replace H := Option.bind_eq_some_iff.mp H
 obtain ⟨⟨t386, t387⟩, A50, H⟩ := H
 replace H : (if t387.toList = ([110, 49, 54] : List UInt8) then ((spec_l1Rd_below.f s0_0 t383 65536).bind fun bt388 => (spec_l1Rd_ins.j0 k s0_0 bt388.2 t380 t382 bt388.1)) else (if t387.toList = ([110, 56] : List UInt8) then ((spec_l1Rd_byte.f s0_0 t383).bind fun bt390 => (spec_l1Rd_ins.j0 k s0_0 bt390.2 t380 t382 bt390.1)) else (if t387.toList = ([101, 56] : List UInt8) then ((spec_l1Rd_byte.f s0_0 t383).bind fun bt392 => (spec_l1Rd_ins.j0 k s0_0 bt392.2 t380 t382 bt392.1)) else (spec_l1Rd_ins.j0 k s0_0 t383 t380 t382 0)))) = some (r1, r2, r3, r4) := H
 have A5 := Aside0.mk A50
 clear A50
 have HC6 := Aside0.mk H
 clear H
 go_enter Try.func88, Try.ntmps88
 go_upto_block 0 with (first | ((with_reducible refine gate_dst (N := 2) rfl ?_); refine box_event ?hg (N := 2) ?hd (cs := #[.int .i64 0, .bool false, .int .i64 0]) (t := 85) ?hr ?_; (case hd => rfl); (case hg => rfl); (case hr => exact q138_); intro gb379 hg w7 hbox hb; have n0_ := Aside0.mk (IsS78.below q69_ hb); have n1_ := Aside0.mk (KeepBut.trans q70_ (KeepBut.of_below hb g none) (.inl rfl)); have n2_ := Aside0.mk (below_step q50_ hb); have n3_ := Aside0.mk (hbox); have n4_ := Aside0.mk ((q33_ : w.heap.size ≤ gb379)); have n5_ := Aside0.mk ((Nat.le_trans HW0.out (q33_ : w.heap.size ≤ gb379) : w0.heap.size ≤ gb379)); have n6_ := Aside0.mk ((q24_ : g ≠ gb379)); have n7_ := Aside0.mk ((q25_ : gb379 ≠ g)); clear HI0; clear HK; clear HB; have HI0 := n0_; have HK := n1_; have HB := n2_; have BK379 := n3_; have GW379 := n4_; have GE379 := n5_; have NB0_379 := n6_; have NB379_0 := n7_; clear n0_ n1_ n2_ n3_ n4_ n5_ n6_ n7_; clear hb hbox hg) | ((with_reducible refine gate_callee (f := 37) rfl ?_); refine goesL_ (some 7) rfl rfl Try.func37 (by kernel_rfl) rfl #[.pointer (some ⟨g, 0, none⟩), .int .i64 256] rfl q74_ ?_; (with_reducible refine (spec_l1Rd_below.calls g s0_0 s0_1 256 t380 t381 w0 _ ?side1 ?side2 A2.out).mono ?_); (case side1 => exact q133_); (case side2 => exact q131_); rintro e w8 ⟨rfl, hi, hb, hk⟩; refine ⟨_, rfl, ?_⟩; have n0_ := Aside0.mk (KeepBut.blk hk (g' := gb379) (o := .cells #[.int .i64 0, .bool false, .int .i64 0] 85 (0, 0)) q87_ NB379_0.out (by simp)); have n1_ := Aside0.mk (KeepBut.trans q47_ hk (.inl rfl)); have n2_ := Aside0.mk (hb); have n3_ := Aside0.mk (hi); clear BK379; clear HK; clear HB; clear HI0; have BK379 := n0_; have HK := n1_; have HB := n2_; have HI0 := n3_; clear n0_ n1_ n2_ n3_; (try clear hb); (try clear hk); (try clear hi)) | ((with_reducible refine gate_callee (f := 56) rfl ?_); refine goesL_ (some 9) rfl rfl Try.func56 (by kernel_rfl) rfl #[.pointer (some ⟨g, 0, none⟩), .int .i64 4] rfl q74_ ?_; (with_reducible refine (spec_l1Rd_once.calls g s0_0 t381 4 t382 t383 w0 _ ?side1 ?side2 A3.out).mono ?_); (case side1 => exact q133_); (case side2 => exact q131_); rintro e w9 ⟨rfl, hi, hb, hk⟩; refine ⟨_, rfl, ?_⟩; have n0_ := Aside0.mk (KeepBut.blk hk (g' := gb379) (o := .cells #[.int .i64 0, .bool false, .int .i64 0] 85 (0, 0)) q87_ NB379_0.out (by simp)); have n1_ := Aside0.mk (KeepBut.trans q47_ hk (.inl rfl)); have n2_ := Aside0.mk (hb); have n3_ := Aside0.mk (hi); clear BK379; clear HK; clear HB; clear HI0; have BK379 := n0_; have HK := n1_; have HB := n2_; have HI0 := n3_; clear n0_ n1_ n2_ n3_; (try clear hb); (try clear hk); (try clear hi)) | ((with_reducible refine gate_dst (N := 3) rfl ?_); refine box_event ?hg (N := 3) ?hd (cs := #[.int .i64 0, .bool false, .int .i64 0]) (t := 85) ?hr ?_; (case hd => rfl); (case hg => rfl); (case hr => exact q138_); intro gb384 hg w10 hbox hb; have n0_ := Aside0.mk (IsS78.below (by repeat (first | (with_reducible first | exact HI0.out | apply IsS78.alloc | apply IsS78.drewN | apply IsS78.drew | apply IsS78.set_1 | refine IsS78.far ?_ NB0_379.out _) | exact HI0.out)) hb); have n1_ := Aside0.mk (blk_below (g := gb379) (o := .cells #[.int .i64 0, .bool false, .int .i64 0] 85 (0, 0)) q87_ hb); have n2_ := Aside0.mk (KeepBut.trans q47_ (KeepBut.of_below hb g none) (.inl rfl)); have n3_ := Aside0.mk (below_step (by repeat (first | (with_reducible first | exact HB.out | apply below_alloc | apply pw_below_drewN | apply below_drew1 | refine below_set ?_ (IsS78.ge HI0.out) | refine below_set ?_ GE379.out) | exact HB.out)) hb); have n4_ := Aside0.mk (hbox); have n5_ := Aside0.mk ((q16_ : w.heap.size ≤ gb384)); have n6_ := Aside0.mk ((Nat.le_trans HW0.out (q16_ : w.heap.size ≤ gb384) : w0.heap.size ≤ gb384)); have n7_ := Aside0.mk ((by rw [hg]; exact Nat.ne_of_lt (blk_lt (g := gb379) (o := .cells #[.int .i64 0, .bool false, .int .i64 0] 85 (0, 0)) q87_) : gb379 ≠ gb384)); have n8_ := Aside0.mk ((by rw [hg]; exact Nat.ne_of_gt (blk_lt (g := gb379) (o := .cells #[.int .i64 0, .bool false, .int .i64 0] 85 (0, 0)) q87_) : gb384 ≠ gb379)); have n9_ := Aside0.mk ((by rw [hg]; exact Nat.ne_of_lt (IsS78.lt (show IsS78 w0 _ g s0_0 t383 from by repeat (first | (with_reducible first | exact HI0.out | apply IsS78.alloc | apply IsS78.drewN | apply IsS78.drew | apply IsS78.set_1 | refine IsS78.far ?_ NB0_379.out _) | exact HI0.out))) : g ≠ gb384)); have n10_ := Aside0.mk ((by rw [hg]; exact Nat.ne_of_gt (IsS78.lt (show IsS78 w0 _ g s0_0 t383 from by repeat (first | (with_reducible first | exact HI0.out | apply IsS78.alloc | apply IsS78.drewN | apply IsS78.drew | apply IsS78.set_1 | refine IsS78.far ?_ NB0_379.out _) | exact HI0.out))) : gb384 ≠ g)); clear HI0; clear BK379; clear HK; clear HB; have HI0 := n0_; have BK379 := n1_; have HK := n2_; have HB := n3_; have BK384 := n4_; have GW384 := n5_; have GE384 := n6_; have NB379_384 := n7_; have NB384_379 := n8_; have NB0_384 := n9_; have NB384_0 := n10_; clear n0_ n1_ n2_ n3_ n4_ n5_ n6_ n7_ n8_ n9_ n10_; clear hb hbox hg; have hnb11 := NB384_379.out; have hnc11 := NB379_384.out; have hnb12 := NB384_0.out; have hnc12 := NB0_384.out; have hcz13_0 : w10.cell? ⟨gb384, 0, none⟩ = some (.int .i64 0) := (blk_cell BK384.out 0).trans rfl; have hcz13_1 : w10.cell? ⟨gb384, 1, none⟩ = some (.bool false) := (blk_cell BK384.out 1).trans rfl; have hcz13_2 : w10.cell? ⟨gb384, 2, none⟩ = some (.int .i64 0) := (blk_cell BK384.out 2).trans rfl; have hfz13_0 := blk_frozen BK384.out 0; have hfz13_1 := blk_frozen BK384.out 1; have hfz13_2 := blk_frozen BK384.out 2) | ((with_reducible refine gate_callee (f := 94) rfl ?_); refine goesL_ (some 16) rfl rfl Try.func94 (by kernel_rfl) rfl #[.int .i64 t380, .bool t382] rfl q74_ ?_; (with_reducible refine (spec_l3Template.calls k t380 t382 t385 _ A4.out).mono ?_); rintro e w14 ⟨rfl, hb⟩; refine ⟨_, rfl, ?_⟩; have n0_ := Aside0.mk (IsS78.below (show IsS78 w0 (((w10.setCell ⟨gb384, 0, none⟩ (.int .i64 t380)).setCell ⟨gb384, 1, none⟩ (.bool t382)).setCell ⟨gb384, 2, none⟩ (.int .i64 0)) g s0_0 t383 from by repeat (first | (with_reducible first | exact HI0.out | apply IsS78.alloc | apply IsS78.drewN | apply IsS78.drew | apply IsS78.set_1 | refine IsS78.far ?_ NB0_379.out _ | refine IsS78.far ?_ NB0_384.out _) | exact HI0.out)) hb); have n1_ := Aside0.mk (blk_below (g := gb379) (o := .cells #[.int .i64 0, .bool false, .int .i64 0] 85 (0, 0)) (by (with_reducible repeat (first | refine blk_drewN ?_ _ | refine blk_drew ?_ | refine blk_alloc ?_ _)); refine blk_far ?_ NB379_384.out _; (with_reducible repeat (first | refine blk_drewN ?_ _ | refine blk_drew ?_ | refine blk_alloc ?_ _)); refine blk_far ?_ NB379_384.out _; (with_reducible repeat (first | refine blk_drewN ?_ _ | refine blk_drew ?_ | refine blk_alloc ?_ _)); refine blk_far ?_ NB379_384.out _; (with_reducible repeat (first | refine blk_drewN ?_ _ | refine blk_drew ?_ | refine blk_alloc ?_ _)); exact BK379.out) hb); have n2_ := Aside0.mk (blk_below (g := gb384) (o := .cells #[.int .i64 t380, .bool t382, .int .i64 0] 85 (0, 0)) (by (with_reducible repeat (first | refine blk_drewN ?_ _ | refine blk_drew ?_ | refine blk_alloc ?_ _)); refine blk_put (cs := #[.int .i64 t380, .bool t382, .int .i64 0]) ?_ 2 _ rfl; (with_reducible repeat (first | refine blk_drewN ?_ _ | refine blk_drew ?_ | refine blk_alloc ?_ _)); refine blk_put (cs := #[.int .i64 t380, .bool false, .int .i64 0]) ?_ 1 _ rfl; (with_reducible repeat (first | refine blk_drewN ?_ _ | refine blk_drew ?_ | refine blk_alloc ?_ _)); refine blk_put (cs := #[.int .i64 0, .bool false, .int .i64 0]) ?_ 0 _ rfl; (with_reducible repeat (first | refine blk_drewN ?_ _ | refine blk_drew ?_ | refine blk_alloc ?_ _)); exact BK384.out) hb); have n3_ := Aside0.mk (KeepBut.trans q30_ (KeepBut.of_below hb g none) (.inl rfl)); have n4_ := Aside0.mk (below_step q21_ hb); clear HI0; clear BK379; clear BK384; clear HK; clear HB; have HI0 := n0_; have BK379 := n1_; have BK384 := n2_; have HK := n3_; have HB := n4_; clear n0_ n1_ n2_ n3_ n4_; (try clear hb)) | ((with_reducible refine gate_callee (f := 93) rfl ?_); refine goesL_ (some 17) rfl rfl Try.func93 (by kernel_rfl) rfl #[.string t385] rfl q74_ ?_; (with_reducible refine (spec_l3Hole.calls k t385 t386 t387 _ A5.out).mono ?_); rintro e w15 ⟨rfl, hb⟩; refine ⟨_, rfl, ?_⟩; have n0_ := Aside0.mk (IsS78.below q26_ hb); have n1_ := Aside0.mk (blk_below (g := gb379) (o := .cells #[.int .i64 0, .bool false, .int .i64 0] 85 (0, 0)) q87_ hb); have n2_ := Aside0.mk (blk_below (g := gb384) (o := .cells #[.int .i64 t380, .bool t382, .int .i64 0] 85 (0, 0)) q88_ hb); have n3_ := Aside0.mk (KeepBut.trans q30_ (KeepBut.of_below hb g none) (.inl rfl)); have n4_ := Aside0.mk (below_step q21_ hb); clear HI0; clear BK379; clear BK384; clear HK; clear HB; have HI0 := n0_; have BK379 := n1_; have BK384 := n2_; have HK := n3_; have HB := n4_; clear n0_ n1_ n2_ n3_ n4_; (try clear hb)))
 (try simp only [Act.put, List.setIfInBounds_toArray, List.set_cons_zero, List.set_cons_succ])
 go_cut [] (fun wc => ∃ (kq : Nat) (x1001_5 : Int) (x385002_5 : Int), Aside0 (spec_l1Rd_ins.j0 kq s0_0 x1001_5 t380 t382 x385002_5 = some (r1, r2, r3, r4)) ∧ Aside0 (kq ≤ k) ∧ Aside0 (wc.heap[gb379]? = some (.cells #[.int .i64 0, .bool false, .int .i64 0] 85 (0, 0))) ∧ Aside0 (wc.heap[gb384]? = some (.cells #[.int .i64 t380, .bool t382, .int .i64 x385002_5] 85 (0, 0))) ∧ Aside0 (IsS78 w0 wc g s0_0 x1001_5) ∧ Aside0 (KeepBut w wc g none) ∧ Aside0 (Below w0.heap.size w0 wc))
 case first =>
  have H := HC6.out
  clear HC6
  by_cases c16 : t387.toList = ([110, 49, 54] : List UInt8)
  ·rw [if_pos c16] at H
   have c16b0 : (t387.toList == ([110, 49, 54] : List UInt8)) = true := beq_iff_eq.mpr c16
   have c16b1 : (t387.toList != ([110, 49, 54] : List UInt8)) = false := bne_eq_false_iff_eq.mpr c16
   clear c16
   (first | rw [c16b0] | (simp only [i64_w, i32_w]; rw [c16b0]) | skip)
   replace H := Option.bind_eq_some_iff.mp H
   obtain ⟨⟨t388, t389⟩, A170, H⟩ := H
   replace H : (spec_l1Rd_ins.j0 k s0_0 t389 t380 t382 t388) = some (r1, r2, r3, r4) := H
   have A17 := Aside0.mk A170
   clear A170
   have H' := Aside0.mk H
   clear H
   go_wp2_with (first | ((with_reducible refine gate_callee (f := 37) rfl ?_); refine goesL_ (some 24) rfl rfl Try.func37 (by kernel_rfl) rfl #[.pointer (some ⟨g, 0, none⟩), .int .i64 65536] rfl q74_ ?_; (with_reducible refine (spec_l1Rd_below.calls g s0_0 t383 65536 t388 t389 w0 _ ?side1 ?side2 A17.out).mono ?_); (case side1 => exact q128_); (case side2 => exact q125_); rintro e w18 ⟨rfl, hi, hb, hk⟩; refine ⟨_, rfl, ?_⟩; have n0_ := Aside0.mk (KeepBut.blk hk (g' := gb379) (o := .cells #[.int .i64 0, .bool false, .int .i64 0] 85 (0, 0)) q87_ NB379_0.out (by simp)); have n1_ := Aside0.mk (KeepBut.blk hk (g' := gb384) (o := .cells #[.int .i64 t380, .bool t382, .int .i64 0] 85 (0, 0)) q88_ NB384_0.out (by simp)); have n2_ := Aside0.mk (KeepBut.trans q30_ hk (.inl rfl)); have n3_ := Aside0.mk (hb); have n4_ := Aside0.mk (hi); clear BK379; clear BK384; clear HK; clear HB; clear HI0; have BK379 := n0_; have BK384 := n1_; have HK := n2_; have HB := n3_; have HI0 := n4_; clear n0_ n1_ n2_ n3_ n4_; (try clear hb); (try clear hk); (try clear hi); have hnb19 := NB384_379.out; have hnc19 := NB379_384.out; have hnb20 := NB384_0.out; have hnc20 := NB0_384.out; have hcz21_0 : w18.cell? ⟨gb384, 0, none⟩ = some (.int .i64 t380) := (blk_cell BK384.out 0).trans rfl; have hcz21_1 : w18.cell? ⟨gb384, 1, none⟩ = some (.bool t382) := (blk_cell BK384.out 1).trans rfl; have hcz21_2 : w18.cell? ⟨gb384, 2, none⟩ = some (.int .i64 0) := (blk_cell BK384.out 2).trans rfl; have hfz21_0 := blk_frozen BK384.out 0; have hfz21_1 := blk_frozen BK384.out 1; have hfz21_2 := blk_frozen BK384.out 2))
   go_meet
   case rel => exact ⟨_, (t389), (t388), H', ⟨q121_⟩, ⟨q15_⟩, ⟨q14_⟩, ⟨q26_⟩, ⟨q30_⟩, ⟨q21_⟩⟩
  ·rw [if_neg c16] at H
   have c16b0 : (t387.toList == ([110, 49, 54] : List UInt8)) = false := beq_eq_false_iff_ne.mpr c16
   have c16b1 : (t387.toList != ([110, 49, 54] : List UInt8)) = true := bne_iff_ne.mpr c16
   (first | rw [c16b0] | (simp only [i64_w, i32_w]; rw [c16b0]) | skip)
   by_cases c22 : t387.toList = ([110, 56] : List UInt8)
   ·rw [if_pos c22] at H
    have c22b0 : (t387.toList == ([110, 56] : List UInt8)) = true := beq_iff_eq.mpr c22
    have c22b1 : (t387.toList != ([110, 56] : List UInt8)) = false := bne_eq_false_iff_eq.mpr c22
    clear c22
    replace H := Option.bind_eq_some_iff.mp H
    obtain ⟨⟨t390, t391⟩, A230, H⟩ := H
    replace H : (spec_l1Rd_ins.j0 k s0_0 t391 t380 t382 t390) = some (r1, r2, r3, r4) := H
    have A23 := Aside0.mk A230
    clear A230
    have H' := Aside0.mk H
    clear H
    go_wp2_with (first | ((with_reducible refine gate_callee (f := 58) rfl ?_); refine goesL_ (some 30) rfl rfl Try.func58 (by kernel_rfl) rfl #[.pointer (some ⟨g, 0, none⟩)] rfl q74_ ?_; (with_reducible refine (spec_l1Rd_byte.calls g s0_0 t383 t390 t391 w0 _ ?side1 ?side2 A23.out).mono ?_); (case side1 => exact q128_); (case side2 => exact q125_); rintro e w24 ⟨rfl, hi, hb, hk⟩; refine ⟨_, rfl, ?_⟩; have n0_ := Aside0.mk (KeepBut.blk hk (g' := gb379) (o := .cells #[.int .i64 0, .bool false, .int .i64 0] 85 (0, 0)) q87_ NB379_0.out (by simp)); have n1_ := Aside0.mk (KeepBut.blk hk (g' := gb384) (o := .cells #[.int .i64 t380, .bool t382, .int .i64 0] 85 (0, 0)) q88_ NB384_0.out (by simp)); have n2_ := Aside0.mk (KeepBut.trans q30_ hk (.inl rfl)); have n3_ := Aside0.mk (hb); have n4_ := Aside0.mk (hi); clear BK379; clear BK384; clear HK; clear HB; clear HI0; have BK379 := n0_; have BK384 := n1_; have HK := n2_; have HB := n3_; have HI0 := n4_; clear n0_ n1_ n2_ n3_ n4_; (try clear hb); (try clear hk); (try clear hi); have hnb25 := NB384_379.out; have hnc25 := NB379_384.out; have hnb26 := NB384_0.out; have hnc26 := NB0_384.out; have hcz27_0 : w24.cell? ⟨gb384, 0, none⟩ = some (.int .i64 t380) := (blk_cell BK384.out 0).trans rfl; have hcz27_1 : w24.cell? ⟨gb384, 1, none⟩ = some (.bool t382) := (blk_cell BK384.out 1).trans rfl; have hcz27_2 : w24.cell? ⟨gb384, 2, none⟩ = some (.int .i64 0) := (blk_cell BK384.out 2).trans rfl; have hfz27_0 := blk_frozen BK384.out 0; have hfz27_1 := blk_frozen BK384.out 1; have hfz27_2 := blk_frozen BK384.out 2))
    go_meet
    case rel => exact ⟨_, (t391), (t390), H', ⟨q121_⟩, ⟨q15_⟩, ⟨q14_⟩, ⟨q26_⟩, ⟨q30_⟩, ⟨q21_⟩⟩
   ·rw [if_neg c22] at H
    have c22b0 : (t387.toList == ([110, 56] : List UInt8)) = false := beq_eq_false_iff_ne.mpr c22
    have c22b1 : (t387.toList != ([110, 56] : List UInt8)) = true := bne_iff_ne.mpr c22
    by_cases c28 : t387.toList = ([101, 56] : List UInt8)
    ·rw [if_pos c28] at H
     have c28b0 : (t387.toList == ([101, 56] : List UInt8)) = true := beq_iff_eq.mpr c28
     have c28b1 : (t387.toList != ([101, 56] : List UInt8)) = false := bne_eq_false_iff_eq.mpr c28
     clear c28
     replace H := Option.bind_eq_some_iff.mp H
     obtain ⟨⟨t392, t393⟩, A290, H⟩ := H
     replace H : (spec_l1Rd_ins.j0 k s0_0 t393 t380 t382 t392) = some (r1, r2, r3, r4) := H
     have A29 := Aside0.mk A290
     clear A290
     have H' := Aside0.mk H
     clear H
     go_wp2_with (first | ((with_reducible refine gate_callee (f := 58) rfl ?_); refine goesL_ (some 30) rfl rfl Try.func58 (by kernel_rfl) rfl #[.pointer (some ⟨g, 0, none⟩)] rfl q74_ ?_; (with_reducible refine (spec_l1Rd_byte.calls g s0_0 t383 t392 t393 w0 _ ?side1 ?side2 A29.out).mono ?_); (case side1 => exact q128_); (case side2 => exact q125_); rintro e w30 ⟨rfl, hi, hb, hk⟩; refine ⟨_, rfl, ?_⟩; have n0_ := Aside0.mk (KeepBut.blk hk (g' := gb379) (o := .cells #[.int .i64 0, .bool false, .int .i64 0] 85 (0, 0)) q87_ NB379_0.out (by simp)); have n1_ := Aside0.mk (KeepBut.blk hk (g' := gb384) (o := .cells #[.int .i64 t380, .bool t382, .int .i64 0] 85 (0, 0)) q88_ NB384_0.out (by simp)); have n2_ := Aside0.mk (KeepBut.trans q30_ hk (.inl rfl)); have n3_ := Aside0.mk (hb); have n4_ := Aside0.mk (hi); clear BK379; clear BK384; clear HK; clear HB; clear HI0; have BK379 := n0_; have BK384 := n1_; have HK := n2_; have HB := n3_; have HI0 := n4_; clear n0_ n1_ n2_ n3_ n4_; (try clear hb); (try clear hk); (try clear hi); have hnb31 := NB384_379.out; have hnc31 := NB379_384.out; have hnb32 := NB384_0.out; have hnc32 := NB0_384.out; have hcz33_0 : w30.cell? ⟨gb384, 0, none⟩ = some (.int .i64 t380) := (blk_cell BK384.out 0).trans rfl; have hcz33_1 : w30.cell? ⟨gb384, 1, none⟩ = some (.bool t382) := (blk_cell BK384.out 1).trans rfl; have hcz33_2 : w30.cell? ⟨gb384, 2, none⟩ = some (.int .i64 0) := (blk_cell BK384.out 2).trans rfl; have hfz33_0 := blk_frozen BK384.out 0; have hfz33_1 := blk_frozen BK384.out 1; have hfz33_2 := blk_frozen BK384.out 2))
     go_meet
     case rel => exact ⟨_, (t393), (t392), H', ⟨q121_⟩, ⟨q15_⟩, ⟨q14_⟩, ⟨q26_⟩, ⟨q30_⟩, ⟨q21_⟩⟩
    ·rw [if_neg c28] at H
     have c28b0 : (t387.toList == ([101, 56] : List UInt8)) = false := beq_eq_false_iff_ne.mpr c28
     have c28b1 : (t387.toList != ([101, 56] : List UInt8)) = true := bne_iff_ne.mpr c28
     have H' := Aside0.mk H
     clear H
     go_wp2
     go_meet
     case rel => exact ⟨_, (t383), (0), H', ⟨q121_⟩, ⟨q87_⟩, ⟨q88_⟩, ⟨q26_⟩, ⟨q30_⟩, ⟨q21_⟩⟩
 case rest =>
  clear HC6
  try clear c1
  try clear c2
  try clear p2
  try clear c3
  try clear c5
  try clear c8
  try clear c9
  try clear c11
  try clear c12
  try clear c16
  try clear c16b0
  try clear c16b1
  try clear c19
  try clear c20
  try clear c22
  try clear c22b0
  try clear c22b1
  try clear c25
  try clear c26
  try clear c28
  try clear c28b0
  try clear c28b1
  try clear c31
  try clear c32
  try clear hcz13_0 hcz13_1 hcz13_2
  try clear hcz21_0 hcz21_1 hcz21_2
  try clear hcz27_0 hcz27_1 hcz27_2
  try clear hcz33_0 hcz33_1 hcz33_2
  try clear hfz13_0 hfz13_1 hfz13_2
  try clear hfz21_0 hfz21_1 hfz21_2
  try clear hfz27_0 hfz27_1 hfz27_2
  try clear hfz33_0 hfz33_1 hfz33_2
  obtain ⟨kq, x1001_5, x385002_5, HA, HJ5, BK379, BK384, HI0, HK, HB⟩ := hcut
  cases kq with
  | zero => exact absurd HA.out (by simp [spec_l1Rd_ins.j0])
  | succ kj5 =>
   have H := HA.out
   clear HA
   simp only [spec_l1Rd_ins.j0] at H
   replace H := Option.bind_eq_some_iff.mp H
   obtain ⟨⟨t394, t395⟩, A340, H⟩ := H
   replace H : (if t394 = true then ((spec_l1Rd_off.f kj5 s0_0 t395 0 255).bind fun bt396 => (some (t380, t382, bt396.1, bt396.2))) else (some (t380, t382, x385002_5, t395))) = some (r1, r2, r3, r4) := H
   have A34 := Aside0.mk A340
   clear A340
   by_cases c35 : t394 = true
   ·subst c35
    replace H : ((spec_l1Rd_off.f kj5 s0_0 t395 0 255).bind fun bt396 => (some (t380, t382, bt396.1, bt396.2))) = some (r1, r2, r3, r4) := by rw [if_pos rfl] at H; exact H
    replace H := Option.bind_eq_some_iff.mp H
    obtain ⟨⟨t396, t397⟩, A360, H⟩ := H
    replace H : (some (t380, t382, t396, t397)) = some (r1, r2, r3, r4) := H
    have A36 := Aside0.mk A360
    clear A360
    simp only [Option.some.injEq, Prod.mk.injEq] at H
    obtain ⟨rfl, rfl, rfl, rfl⟩ := H
    go_wp2_with (first | ((with_reducible refine gate_callee (f := 56) rfl ?_); refine goesL_ (some 33) rfl rfl Try.func56 (by kernel_rfl) rfl #[.pointer (some ⟨g, 0, none⟩), .int .i64 40] rfl q74_ ?_; (with_reducible refine (spec_l1Rd_once.calls g s0_0 x1001_5 40 true t395 w0 _ ?side1 ?side2 A34.out).mono ?_); (case side1 => exact q128_); (case side2 => exact q125_); rintro e w37 ⟨rfl, hi, hb, hk⟩; refine ⟨_, rfl, ?_⟩; have n0_ := Aside0.mk (KeepBut.blk hk (g' := gb379) (o := .cells #[.int .i64 0, .bool false, .int .i64 0] 85 (0, 0)) q87_ NB379_0.out (by simp)); have n1_ := Aside0.mk (KeepBut.blk hk (g' := gb384) (o := .cells #[.int .i64 t380, .bool t382, .int .i64 x385002_5] 85 (0, 0)) q88_ NB384_0.out (by simp)); have n2_ := Aside0.mk (KeepBut.trans q30_ hk (.inl rfl)); have n3_ := Aside0.mk (hb); have n4_ := Aside0.mk (hi); clear BK379; clear BK384; clear HK; clear HB; clear HI0; have BK379 := n0_; have BK384 := n1_; have HK := n2_; have HB := n3_; have HI0 := n4_; clear n0_ n1_ n2_ n3_ n4_; (try clear hb); (try clear hk); (try clear hi)) | ((with_reducible refine gate_callee (f := 57) rfl ?_); refine goesL_ (some 35) rfl rfl Try.func57 (by kernel_rfl) rfl #[.pointer (some ⟨g, 0, none⟩), .int .i64 0, .int .i64 255] rfl q74_ ?_; (with_reducible refine (spec_l1Rd_off.calls kj5 g s0_0 t395 0 255 t396 t397 w0 _ ?side1 ?side2 A36.out).mono ?_); (case side1 => exact q128_); (case side2 => exact q125_); rintro e w38 ⟨rfl, hi, hb, hk⟩; refine ⟨_, rfl, ?_⟩; have n0_ := Aside0.mk (KeepBut.blk hk (g' := gb379) (o := .cells #[.int .i64 0, .bool false, .int .i64 0] 85 (0, 0)) q87_ NB379_0.out (by simp)); have n1_ := Aside0.mk (KeepBut.blk hk (g' := gb384) (o := .cells #[.int .i64 t380, .bool t382, .int .i64 x385002_5] 85 (0, 0)) q88_ NB384_0.out (by simp)); have n2_ := Aside0.mk (KeepBut.trans q30_ hk (.inl rfl)); have n3_ := Aside0.mk (hb); have n4_ := Aside0.mk (hi); clear BK379; clear BK384; clear HK; clear HB; clear HI0; have BK379 := n0_; have BK384 := n1_; have HK := n2_; have HB := n3_; have HI0 := n4_; clear n0_ n1_ n2_ n3_ n4_; (try clear hb); (try clear hk); (try clear hi); have hnb39 := NB384_379.out; have hnc39 := NB379_384.out; have hnb40 := NB384_0.out; have hnc40 := NB0_384.out; have hcz41_0 : w38.cell? ⟨gb384, 0, none⟩ = some (.int .i64 t380) := (blk_cell BK384.out 0).trans rfl; have hcz41_1 : w38.cell? ⟨gb384, 1, none⟩ = some (.bool t382) := (blk_cell BK384.out 1).trans rfl; have hcz41_2 : w38.cell? ⟨gb384, 2, none⟩ = some (.int .i64 x385002_5) := (blk_cell BK384.out 2).trans rfl; have hfz41_0 := blk_frozen BK384.out 0; have hfz41_1 := blk_frozen BK384.out 1; have hfz41_2 := blk_frozen BK384.out 2; have hnb42 := NB379_0.out; have hnc42 := NB0_379.out; have hcz43_0 : w38.cell? ⟨gb379, 0, none⟩ = some (.int .i64 0) := (blk_cell BK379.out 0).trans rfl; have hcz43_1 : w38.cell? ⟨gb379, 1, none⟩ = some (.bool false) := (blk_cell BK379.out 1).trans rfl; have hcz43_2 : w38.cell? ⟨gb379, 2, none⟩ = some (.int .i64 0) := (blk_cell BK379.out 2).trans rfl; have hfz43_0 := blk_frozen BK379.out 0; have hfz43_1 := blk_frozen BK379.out 1; have hfz43_2 := blk_frozen BK379.out 2))
    refine bodyPost_ret (results_cell_row rfl _ _ gb379 85 #[.int .i64 t380, .bool t382, .int .i64 t396] (0, 0) _ rfl (by (with_reducible repeat (first | refine blk_drewN ?_ _ | refine blk_drew ?_ | refine blk_alloc ?_ _)); refine blk_put (cs := #[.int .i64 t380, .bool t382, .int .i64 0]) ?_ 2 _ rfl; (with_reducible repeat (first | refine blk_drewN ?_ _ | refine blk_drew ?_ | refine blk_alloc ?_ _)); refine blk_put (cs := #[.int .i64 t380, .bool false, .int .i64 0]) ?_ 1 _ rfl; (with_reducible repeat (first | refine blk_drewN ?_ _ | refine blk_drew ?_ | refine blk_alloc ?_ _)); refine blk_put (cs := #[.int .i64 0, .bool false, .int .i64 0]) ?_ 0 _ rfl; (with_reducible repeat (first | refine blk_drewN ?_ _ | refine blk_drew ?_ | refine blk_alloc ?_ _)); refine blk_far ?_ NB379_384.out _; (with_reducible repeat (first | refine blk_drewN ?_ _ | refine blk_drew ?_ | refine blk_alloc ?_ _)); exact BK379.out) Try.underlying85 rfl (by kernel_rfl)) rfl ?_
    exact ⟨q76_, q26_, q21_, q30_⟩
   ·replace c35 := Bool.eq_false_iff.mpr c35
    subst c35
    replace H : (some (t380, t382, x385002_5, t395)) = some (r1, r2, r3, r4) := by rw [if_neg (show ¬ (false = true) by decide)] at H; exact H
    simp only [Option.some.injEq, Prod.mk.injEq] at H
    obtain ⟨rfl, rfl, rfl, rfl⟩ := H
    go_wp2_with (first | ((with_reducible refine gate_callee (f := 56) rfl ?_); refine goesL_ (some 33) rfl rfl Try.func56 (by kernel_rfl) rfl #[.pointer (some ⟨g, 0, none⟩), .int .i64 40] rfl q74_ ?_; (with_reducible refine (spec_l1Rd_once.calls g s0_0 x1001_5 40 false t395 w0 _ ?side1 ?side2 A34.out).mono ?_); (case side1 => exact q128_); (case side2 => exact q125_); rintro e w44 ⟨rfl, hi, hb, hk⟩; refine ⟨_, rfl, ?_⟩; have n0_ := Aside0.mk (KeepBut.blk hk (g' := gb379) (o := .cells #[.int .i64 0, .bool false, .int .i64 0] 85 (0, 0)) q87_ NB379_0.out (by simp)); have n1_ := Aside0.mk (KeepBut.blk hk (g' := gb384) (o := .cells #[.int .i64 t380, .bool t382, .int .i64 x385002_5] 85 (0, 0)) q88_ NB384_0.out (by simp)); have n2_ := Aside0.mk (KeepBut.trans q30_ hk (.inl rfl)); have n3_ := Aside0.mk (hb); have n4_ := Aside0.mk (hi); clear BK379; clear BK384; clear HK; clear HB; clear HI0; have BK379 := n0_; have BK384 := n1_; have HK := n2_; have HB := n3_; have HI0 := n4_; clear n0_ n1_ n2_ n3_ n4_; (try clear hb); (try clear hk); (try clear hi); have hnb45 := NB384_379.out; have hnc45 := NB379_384.out; have hnb46 := NB384_0.out; have hnc46 := NB0_384.out; have hcz47_0 : w44.cell? ⟨gb384, 0, none⟩ = some (.int .i64 t380) := (blk_cell BK384.out 0).trans rfl; have hcz47_1 : w44.cell? ⟨gb384, 1, none⟩ = some (.bool t382) := (blk_cell BK384.out 1).trans rfl; have hcz47_2 : w44.cell? ⟨gb384, 2, none⟩ = some (.int .i64 x385002_5) := (blk_cell BK384.out 2).trans rfl; have hfz47_0 := blk_frozen BK384.out 0; have hfz47_1 := blk_frozen BK384.out 1; have hfz47_2 := blk_frozen BK384.out 2; have hnb48 := NB379_0.out; have hnc48 := NB0_379.out; have hcz49_0 : w44.cell? ⟨gb379, 0, none⟩ = some (.int .i64 0) := (blk_cell BK379.out 0).trans rfl; have hcz49_1 : w44.cell? ⟨gb379, 1, none⟩ = some (.bool false) := (blk_cell BK379.out 1).trans rfl; have hcz49_2 : w44.cell? ⟨gb379, 2, none⟩ = some (.int .i64 0) := (blk_cell BK379.out 2).trans rfl; have hfz49_0 := blk_frozen BK379.out 0; have hfz49_1 := blk_frozen BK379.out 1; have hfz49_2 := blk_frozen BK379.out 2))
    refine bodyPost_ret (results_cell_row rfl _ _ gb379 85 #[.int .i64 t380, .bool t382, .int .i64 x385002_5] (0, 0) _ rfl (by (with_reducible repeat (first | refine blk_drewN ?_ _ | refine blk_drew ?_ | refine blk_alloc ?_ _)); refine blk_put (cs := #[.int .i64 t380, .bool t382, .int .i64 0]) ?_ 2 _ rfl; (with_reducible repeat (first | refine blk_drewN ?_ _ | refine blk_drew ?_ | refine blk_alloc ?_ _)); refine blk_put (cs := #[.int .i64 t380, .bool false, .int .i64 0]) ?_ 1 _ rfl; (with_reducible repeat (first | refine blk_drewN ?_ _ | refine blk_drew ?_ | refine blk_alloc ?_ _)); refine blk_put (cs := #[.int .i64 0, .bool false, .int .i64 0]) ?_ 0 _ rfl; (with_reducible repeat (first | refine blk_drewN ?_ _ | refine blk_drew ?_ | refine blk_alloc ?_ _)); exact BK379.out) Try.underlying85 rfl (by kernel_rfl)) rfl ?_
    exact ⟨q76_, q26_, q21_, q30_⟩
end Go.Proofs.Ytcohcndliaaacaa.QFnCartReads
