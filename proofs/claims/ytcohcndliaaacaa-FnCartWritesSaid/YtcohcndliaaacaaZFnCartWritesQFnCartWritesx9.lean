/- The machine's side of a law, written by a program of this session for this claim. -/
import Derived.Test.YtcohcndliaaacaaZFnCartWritesQq
import Derived.Test.YtcohcndliaaacaaZFnCartWritesQFnCartWritesx0
import Derived.Test.YtcohcndliaaacaaZFnCartWritesQFnCartWritesx2
import Derived.Test.YtcohcndliaaacaaZFnCartWritesQFnCartWritesx4
import Derived.Test.YtcohcndliaaacaaZFnCartWritesQFnCartWritesx5
import Derived.Test.YtcohcndliaaacaaZFnCartWritesQFnCartWritesx8
namespace Go.Proofs.Ytcohcndliaaacaa.QFnCartWrites
open Go.Proofs.Ytcohcndliaaacaa.Qq
open Go.RowKit Go.Proofs.Ytcohcndliaaacaa.LibX Go.Proofs.Ytcohcndliaaacaa.LibC Go.Proofs.YtcohcndliaaacaaW.PrintWords Go.Proofs.YtcohcndliaaacaaW.PrintLast Go.Proofs.YtcohcndliaaacaaW.PrintMore
attribute [local go_sem] max2_int min2_int max_two min_two max_three min_three max_four min_four   -- for this text's walks alone
set_option maxHeartbeats 8000000
set_option maxRecDepth 100000
set_option linter.unusedVariables false
set_option linter.unusedSimpArgs false
def spec_l3Length.f (k : Nat) (a0 : Int) (a1 : Bool) : Option (Int) := (spec_l3Template.f k a0 a1).bind fun t339 => (if t339.toList = ([] : List UInt8) then (some 0) else (if a1 = true then (some 2) else ((spec_l3Hole.f k t339).bind fun bt340 => (if bt340.2.toList = ([] : List UInt8) then (some 1) else (if bt340.2.toList = ([110, 49, 54] : List UInt8) then (some 3) else (some 2))))))
theorem spec_l3Length.mono : ∀ a0 a1 k, LeO (spec_l3Length.f k a0 a1) (spec_l3Length.f (k + 1) a0 a1) := by
 intro a0 a1 k
 unfold spec_l3Length.f
 repeat' first
   | (with_reducible first | exact spec_l3Hole.mono _ _ | exact spec_l3Template.mono _ _ _ | exact LeO.refl _ | exact LeO.none _ | refine LeO.ite ?_ ?_ | refine LeO.bind ?_ (fun _ => ?_))
   | exact spec_l3Hole.mono _ _
   | exact spec_l3Template.mono _ _ _
   | exact LeO.none _
   | refine LeO.ite ?_ ?_
   | refine LeO.bind ?_ (fun _ => ?_)
theorem spec_l3Length.calls (k : Nat) (a0 : Int) (a1 : Bool) (r : Int) (w : World) (h : spec_l3Length.f k a0 a1 = some r) :
  Calls Try.prog 87 #[.int .i64 a0, .bool a1] w fun e w' => e = .returned (.int .i64 r) ∧ Below w.heap.size w w' := by
 have HB := Aside0.mk (Below.refl w.heap.size w)
 have H : ((spec_l3Template.f k a0 a1).bind fun t339 => (if t339.toList = ([] : List UInt8) then (some 0) else (if a1 = true then (some 2) else ((spec_l3Hole.f k t339).bind fun bt340 => (if bt340.2.toList = ([] : List UInt8) then (some 1) else (if bt340.2.toList = ([110, 49, 54] : List UInt8) then (some 3) else (some 2))))))) = some r := h
 clear h
 replace H := Option.bind_eq_some_iff.mp H
 obtain ⟨t339, A30, H⟩ := H
 have A3 := Aside0.mk A30
 clear A30
 by_cases c4 : t339.toList = ([] : List UInt8)
 ·rw [if_pos c4] at H
  have c4b0 : (t339.toList == ([] : List UInt8)) = true := beq_iff_eq.mpr c4
  have c4b1 : (t339.toList != ([] : List UInt8)) = false := bne_eq_false_iff_eq.mpr c4
  clear c4
  obtain rfl := Option.some.inj H
  go_enter Try.func87, Try.ntmps87
  go_wp2_with (first | ((with_reducible refine gate_callee (f := 94) rfl ?_); refine goesL_ (some 10) rfl rfl Try.func94 (by kernel_rfl) rfl #[.int .i64 a0, .bool a1] rfl q101_ ?_; (with_reducible refine (spec_l3Template.calls k a0 a1 t339 _ A3.out).mono ?_); rintro e w5 ⟨rfl, hb⟩; refine ⟨_, rfl, ?_⟩; replace HB := Aside0.mk (below_step q102_ hb); (try clear hb)))
  go_ret
  exact ⟨q103_, q102_⟩
 ·rw [if_neg c4] at H
  have c4b0 : (t339.toList == ([] : List UInt8)) = false := beq_eq_false_iff_ne.mpr c4
  have c4b1 : (t339.toList != ([] : List UInt8)) = true := bne_iff_ne.mpr c4
  by_cases c6 : a1 = true
  ·subst c6
   replace H : (some 2) = some r := by rw [if_pos rfl] at H; exact H
   obtain rfl := Option.some.inj H
   go_enter Try.func87, Try.ntmps87
   go_wp2_with (first | ((with_reducible refine gate_callee (f := 94) rfl ?_); refine goesL_ (some 10) rfl rfl Try.func94 (by kernel_rfl) rfl #[.int .i64 a0, .bool true] rfl q101_ ?_; (with_reducible refine (spec_l3Template.calls k a0 true t339 _ A3.out).mono ?_); rintro e w7 ⟨rfl, hb⟩; refine ⟨_, rfl, ?_⟩; replace HB := Aside0.mk (below_step q102_ hb); (try clear hb)))
   go_ret
   exact ⟨q103_, q102_⟩
  ·replace c6 := Bool.eq_false_iff.mpr c6
   subst c6
   replace H : ((spec_l3Hole.f k t339).bind fun bt340 => (if bt340.2.toList = ([] : List UInt8) then (some 1) else (if bt340.2.toList = ([110, 49, 54] : List UInt8) then (some 3) else (some 2)))) = some r := by rw [if_neg (show ¬ (false = true) by decide)] at H; exact H
   replace H := Option.bind_eq_some_iff.mp H
   obtain ⟨⟨t340, t341⟩, A80, H⟩ := H
   replace H : (if t341.toList = ([] : List UInt8) then (some 1) else (if t341.toList = ([110, 49, 54] : List UInt8) then (some 3) else (some 2))) = some r := H
   have A8 := Aside0.mk A80
   clear A80
   by_cases c9 : t341.toList = ([] : List UInt8)
   ·rw [if_pos c9] at H
    have c9b0 : (t341.toList == ([] : List UInt8)) = true := beq_iff_eq.mpr c9
    have c9b1 : (t341.toList != ([] : List UInt8)) = false := bne_eq_false_iff_eq.mpr c9
    clear c9
    obtain rfl := Option.some.inj H
    go_enter Try.func87, Try.ntmps87
    go_wp2_with (first | ((with_reducible refine gate_callee (f := 94) rfl ?_); refine goesL_ (some 10) rfl rfl Try.func94 (by kernel_rfl) rfl #[.int .i64 a0, .bool false] rfl q101_ ?_; (with_reducible refine (spec_l3Template.calls k a0 false t339 _ A3.out).mono ?_); rintro e w10 ⟨rfl, hb⟩; refine ⟨_, rfl, ?_⟩; replace HB := Aside0.mk (below_step q102_ hb); (try clear hb)) | ((with_reducible refine gate_callee (f := 93) rfl ?_); refine goesL_ (some 16) rfl rfl Try.func93 (by kernel_rfl) rfl #[.string t339] rfl q101_ ?_; (with_reducible refine (spec_l3Hole.calls k t339 t340 t341 _ A8.out).mono ?_); rintro e w11 ⟨rfl, hb⟩; refine ⟨_, rfl, ?_⟩; replace HB := Aside0.mk (below_step q102_ hb); (try clear hb)))
    go_ret
    exact ⟨q103_, q102_⟩
   ·rw [if_neg c9] at H
    have c9b0 : (t341.toList == ([] : List UInt8)) = false := beq_eq_false_iff_ne.mpr c9
    have c9b1 : (t341.toList != ([] : List UInt8)) = true := bne_iff_ne.mpr c9
    by_cases c12 : t341.toList = ([110, 49, 54] : List UInt8)
    ·rw [if_pos c12] at H
     have c12b0 : (t341.toList == ([110, 49, 54] : List UInt8)) = true := beq_iff_eq.mpr c12
     have c12b1 : (t341.toList != ([110, 49, 54] : List UInt8)) = false := bne_eq_false_iff_eq.mpr c12
     clear c12
     obtain rfl := Option.some.inj H
     go_enter Try.func87, Try.ntmps87
     go_wp2_with (first | ((with_reducible refine gate_callee (f := 94) rfl ?_); refine goesL_ (some 10) rfl rfl Try.func94 (by kernel_rfl) rfl #[.int .i64 a0, .bool false] rfl q101_ ?_; (with_reducible refine (spec_l3Template.calls k a0 false t339 _ A3.out).mono ?_); rintro e w13 ⟨rfl, hb⟩; refine ⟨_, rfl, ?_⟩; replace HB := Aside0.mk (below_step q102_ hb); (try clear hb)) | ((with_reducible refine gate_callee (f := 93) rfl ?_); refine goesL_ (some 16) rfl rfl Try.func93 (by kernel_rfl) rfl #[.string t339] rfl q101_ ?_; (with_reducible refine (spec_l3Hole.calls k t339 t340 t341 _ A8.out).mono ?_); rintro e w14 ⟨rfl, hb⟩; refine ⟨_, rfl, ?_⟩; replace HB := Aside0.mk (below_step q102_ hb); (try clear hb)))
     go_ret
     exact ⟨q103_, q102_⟩
    ·rw [if_neg c12] at H
     have c12b0 : (t341.toList == ([110, 49, 54] : List UInt8)) = false := beq_eq_false_iff_ne.mpr c12
     have c12b1 : (t341.toList != ([110, 49, 54] : List UInt8)) = true := bne_iff_ne.mpr c12
     obtain rfl := Option.some.inj H
     go_enter Try.func87, Try.ntmps87
     go_wp2_with (first | ((with_reducible refine gate_callee (f := 94) rfl ?_); refine goesL_ (some 10) rfl rfl Try.func94 (by kernel_rfl) rfl #[.int .i64 a0, .bool false] rfl q101_ ?_; (with_reducible refine (spec_l3Template.calls k a0 false t339 _ A3.out).mono ?_); rintro e w15 ⟨rfl, hb⟩; refine ⟨_, rfl, ?_⟩; replace HB := Aside0.mk (below_step q102_ hb); (try clear hb)) | ((with_reducible refine gate_callee (f := 93) rfl ?_); refine goesL_ (some 16) rfl rfl Try.func93 (by kernel_rfl) rfl #[.string t339] rfl q101_ ?_; (with_reducible refine (spec_l3Hole.calls k t339 t340 t341 _ A8.out).mono ?_); rintro e w16 ⟨rfl, hb⟩; refine ⟨_, rfl, ?_⟩; replace HB := Aside0.mk (below_step q102_ hb); (try clear hb)))
     go_ret
     exact ⟨q103_, q102_⟩
def spec_LengthOf.f (k : Nat) (a0 : Int) (a1 : Bool) : Option (Int) := (spec_l1In.f a0 0 255).bind fun t342 => (if t342 = true then ((spec_l3Length.f k a0 a1).bind fun t343 => (some t343)) else (some 0))
theorem spec_LengthOf.mono : ∀ a0 a1 k, LeO (spec_LengthOf.f k a0 a1) (spec_LengthOf.f (k + 1) a0 a1) := by
 intro a0 a1 k
 unfold spec_LengthOf.f
 repeat' first
   | (with_reducible first | exact spec_l3Length.mono _ _ _ | exact LeO.refl _ | exact LeO.none _ | refine LeO.ite ?_ ?_ | refine LeO.bind ?_ (fun _ => ?_))
   | exact spec_l3Length.mono _ _ _
   | exact LeO.none _
   | refine LeO.ite ?_ ?_
   | refine LeO.bind ?_ (fun _ => ?_)
theorem spec_LengthOf.calls (k : Nat) (a0 : Int) (a1 : Bool) (r : Int) (w : World) (h : spec_LengthOf.f k a0 a1 = some r) :
  Calls Try.prog 92 #[.int .i64 a0, .bool a1] w fun e w' => e = .returned (.int .i64 r) ∧ Below w.heap.size w w' := by
 have HB := Aside0.mk (Below.refl w.heap.size w)
 have H : ((spec_l1In.f a0 0 255).bind fun t342 => (if t342 = true then ((spec_l3Length.f k a0 a1).bind fun t343 => (some t343)) else (some 0))) = some r := h
 clear h
 replace H := Option.bind_eq_some_iff.mp H
 obtain ⟨t342, A30, H⟩ := H
 have A3 := Aside0.mk A30
 clear A30
 by_cases c4 : t342 = true
 ·subst c4
  replace H : ((spec_l3Length.f k a0 a1).bind fun t343 => (some t343)) = some r := by rw [if_pos rfl] at H; exact H
  replace H := Option.bind_eq_some_iff.mp H
  obtain ⟨t343, A50, H⟩ := H
  have A5 := Aside0.mk A50
  clear A50
  obtain rfl := Option.some.inj H
  go_enter Try.func92, Try.ntmps92
  go_wp2_with (first | ((with_reducible refine gate_callee (f := 41) rfl ?_); refine goesL_ (some 6) rfl rfl Try.func41 (by kernel_rfl) rfl #[.int .i64 a0, .int .i64 0, .int .i64 255] rfl q101_ ?_; (with_reducible refine (spec_l1In.calls a0 0 255 true _ A3.out).mono ?_); rintro e w' ⟨rfl, ⟨nd, rfl⟩⟩; refine ⟨_, rfl, ?_⟩) | ((with_reducible refine gate_callee (f := 87) rfl ?_); refine goesL_ (some 10) rfl rfl Try.func87 (by kernel_rfl) rfl #[.int .i64 a0, .bool a1] rfl q101_ ?_; (with_reducible refine (spec_l3Length.calls k a0 a1 t343 _ A5.out).mono ?_); rintro e w6 ⟨rfl, hb⟩; refine ⟨_, rfl, ?_⟩; replace HB := Aside0.mk (below_step q102_ hb); (try clear hb)))
  go_ret
  exact ⟨q103_, q102_⟩
 ·replace c4 := Bool.eq_false_iff.mpr c4
  subst c4
  replace H : (some 0) = some r := by rw [if_neg (show ¬ (false = true) by decide)] at H; exact H
  obtain rfl := Option.some.inj H
  go_enter Try.func92, Try.ntmps92
  go_wp2_with (first | ((with_reducible refine gate_callee (f := 41) rfl ?_); refine goesL_ (some 6) rfl rfl Try.func41 (by kernel_rfl) rfl #[.int .i64 a0, .int .i64 0, .int .i64 255] rfl q101_ ?_; (with_reducible refine (spec_l1In.calls a0 0 255 false _ A3.out).mono ?_); rintro e w' ⟨rfl, ⟨nd, rfl⟩⟩; refine ⟨_, rfl, ?_⟩))
  go_ret
  exact ⟨q103_, q102_⟩
def spec_InsOk.f (k : Nat) (a0_0 : Int) (a0_1 : Bool) (a0_2 : Int) : Option (Bool) := (spec_LengthOf.f k a0_0 a0_1).bind fun t345 => (if t345 = 0 then (some false) else ((spec_l3Template.f k a0_0 a0_1).bind fun t346 => ((spec_l3Hole.f k t346).bind fun bt347 => (if bt347.2.toList = ([110, 49, 54] : List UInt8) then ((spec_l1In.f a0_2 0 65535).bind fun t349 => (some t349)) else (if bt347.2.toList = ([110, 56] : List UInt8) then ((spec_l1In.f a0_2 0 255).bind fun t350 => (some t350)) else (if bt347.2.toList = ([101, 56] : List UInt8) then ((spec_l1In.f a0_2 0 255).bind fun t351 => (some t351)) else (some (a0_2 == 0))))))))
theorem spec_InsOk.mono : ∀ a0 a1 a2 k, LeO (spec_InsOk.f k a0 a1 a2) (spec_InsOk.f (k + 1) a0 a1 a2) := by
 intro a0 a1 a2 k
 unfold spec_InsOk.f
 repeat' first
   | (with_reducible first | exact spec_LengthOf.mono _ _ _ | exact spec_l3Hole.mono _ _ | exact spec_l3Template.mono _ _ _ | exact LeO.refl _ | exact LeO.none _ | refine LeO.ite ?_ ?_ | refine LeO.bind ?_ (fun _ => ?_))
   | exact spec_LengthOf.mono _ _ _
   | exact spec_l3Hole.mono _ _
   | exact spec_l3Template.mono _ _ _
   | exact LeO.none _
   | refine LeO.ite ?_ ?_
   | refine LeO.bind ?_ (fun _ => ?_)
theorem spec_InsOk.calls (k : Nat) (a0_0 : Int) (a0_1 : Bool) (a0_2 : Int) (r : Bool) (w : World) (h : spec_InsOk.f k a0_0 a0_1 a0_2 = some r) :
  Calls Try.prog 86 #[.agg #[.int .i64 a0_0, .bool a0_1, .int .i64 a0_2]] w fun e w' => e = .returned (.bool r) ∧ Below w.heap.size w w' := by
 have hu85 := Try.underlying85
 have HB := Aside0.mk (Below.refl w.heap.size w)
 have H : ((spec_LengthOf.f k a0_0 a0_1).bind fun t345 => (if t345 = 0 then (some false) else ((spec_l3Template.f k a0_0 a0_1).bind fun t346 => ((spec_l3Hole.f k t346).bind fun bt347 => (if bt347.2.toList = ([110, 49, 54] : List UInt8) then ((spec_l1In.f a0_2 0 65535).bind fun t349 => (some t349)) else (if bt347.2.toList = ([110, 56] : List UInt8) then ((spec_l1In.f a0_2 0 255).bind fun t350 => (some t350)) else (if bt347.2.toList = ([101, 56] : List UInt8) then ((spec_l1In.f a0_2 0 255).bind fun t351 => (some t351)) else (some (a0_2 == 0))))))))) = some r := h
 clear h
 replace H := Option.bind_eq_some_iff.mp H
 obtain ⟨t345, A20, H⟩ := H
 have A2 := Aside0.mk A20
 clear A20
 by_cases c3 : t345 = 0
 ·rw [if_pos c3] at H
  have c3b0 : (t345 == 0) = true := beq_iff_eq.mpr c3
  have c3b1 : (t345 != 0) = false := bne_eq_false_iff_eq.mpr c3
  clear c3
  obtain rfl := Option.some.inj H
  go_enter Try.func86, Try.ntmps86
  go_wp2_with (first | ((with_reducible refine gate_dst (N := 1) rfl ?_); refine box_event ?hg (N := 1) ?hd (cs := #[.int .i64 a0_0, .bool a0_1, .int .i64 a0_2]) (t := 85) ?hr ?_; (case hd => rfl); (case hg => rfl); (case hr => exact q175_); intro gb344 hg w4 hbox hb; have n0_ := Aside0.mk (below_step q102_ hb); have n1_ := Aside0.mk (hbox); have n2_ := Aside0.mk ((q80_ : w.heap.size ≤ gb344)); have n3_ := Aside0.mk ((q80_ : w.heap.size ≤ gb344)); clear HB; have HB := n0_; have BK344 := n1_; have GW344 := n2_; have GE344 := n3_; clear n0_ n1_ n2_ n3_; clear hb hbox hg; have hcz5_0 : w4.cell? ⟨gb344, 0, none⟩ = some (.int .i64 a0_0) := (blk_cell BK344.out 0).trans rfl; have hcz5_1 : w4.cell? ⟨gb344, 1, none⟩ = some (.bool a0_1) := (blk_cell BK344.out 1).trans rfl; have hcz5_2 : w4.cell? ⟨gb344, 2, none⟩ = some (.int .i64 a0_2) := (blk_cell BK344.out 2).trans rfl; have hfz5_0 := blk_frozen BK344.out 0; have hfz5_1 := blk_frozen BK344.out 1; have hfz5_2 := blk_frozen BK344.out 2) | ((with_reducible refine gate_callee (f := 92) rfl ?_); refine goesL_ (some 9) rfl rfl Try.func92 (by kernel_rfl) rfl #[.int .i64 a0_0, .bool a0_1] rfl q101_ ?_; (with_reducible refine (spec_LengthOf.calls k a0_0 a0_1 t345 _ A2.out).mono ?_); rintro e w6 ⟨rfl, hb⟩; refine ⟨_, rfl, ?_⟩; have n0_ := Aside0.mk (blk_below (g := gb344) (o := .cells #[.int .i64 a0_0, .bool a0_1, .int .i64 a0_2] 85 (0, 0)) q110_ hb); have n1_ := Aside0.mk (below_step q86_ hb); clear BK344; clear HB; have BK344 := n0_; have HB := n1_; clear n0_ n1_; (try clear hb)))
  go_ret
  exact ⟨q103_, q86_⟩
 ·rw [if_neg c3] at H
  have c3b0 : (t345 == 0) = false := beq_eq_false_iff_ne.mpr c3
  have c3b1 : (t345 != 0) = true := bne_iff_ne.mpr c3
  replace H := Option.bind_eq_some_iff.mp H
  obtain ⟨t346, A70, H⟩ := H
  have A7 := Aside0.mk A70
  clear A70
  replace H := Option.bind_eq_some_iff.mp H
  obtain ⟨⟨t347, t348⟩, A80, H⟩ := H
  replace H : (if t348.toList = ([110, 49, 54] : List UInt8) then ((spec_l1In.f a0_2 0 65535).bind fun t349 => (some t349)) else (if t348.toList = ([110, 56] : List UInt8) then ((spec_l1In.f a0_2 0 255).bind fun t350 => (some t350)) else (if t348.toList = ([101, 56] : List UInt8) then ((spec_l1In.f a0_2 0 255).bind fun t351 => (some t351)) else (some (a0_2 == 0))))) = some r := H
  have A8 := Aside0.mk A80
  clear A80
  by_cases c9 : t348.toList = ([110, 49, 54] : List UInt8)
  ·rw [if_pos c9] at H
   have c9b0 : (t348.toList == ([110, 49, 54] : List UInt8)) = true := beq_iff_eq.mpr c9
   have c9b1 : (t348.toList != ([110, 49, 54] : List UInt8)) = false := bne_eq_false_iff_eq.mpr c9
   clear c9
   replace H := Option.bind_eq_some_iff.mp H
   obtain ⟨t349, A100, H⟩ := H
   have A10 := Aside0.mk A100
   clear A100
   obtain rfl := Option.some.inj H
   go_enter Try.func86, Try.ntmps86
   go_wp2_with (first | ((with_reducible refine gate_dst (N := 1) rfl ?_); refine box_event ?hg (N := 1) ?hd (cs := #[.int .i64 a0_0, .bool a0_1, .int .i64 a0_2]) (t := 85) ?hr ?_; (case hd => rfl); (case hg => rfl); (case hr => exact q175_); intro gb344 hg w11 hbox hb; have n0_ := Aside0.mk (below_step q102_ hb); have n1_ := Aside0.mk (hbox); have n2_ := Aside0.mk ((q80_ : w.heap.size ≤ gb344)); have n3_ := Aside0.mk ((q80_ : w.heap.size ≤ gb344)); clear HB; have HB := n0_; have BK344 := n1_; have GW344 := n2_; have GE344 := n3_; clear n0_ n1_ n2_ n3_; clear hb hbox hg; have hcz12_0 : w11.cell? ⟨gb344, 0, none⟩ = some (.int .i64 a0_0) := (blk_cell BK344.out 0).trans rfl; have hcz12_1 : w11.cell? ⟨gb344, 1, none⟩ = some (.bool a0_1) := (blk_cell BK344.out 1).trans rfl; have hcz12_2 : w11.cell? ⟨gb344, 2, none⟩ = some (.int .i64 a0_2) := (blk_cell BK344.out 2).trans rfl; have hfz12_0 := blk_frozen BK344.out 0; have hfz12_1 := blk_frozen BK344.out 1; have hfz12_2 := blk_frozen BK344.out 2) | ((with_reducible refine gate_callee (f := 92) rfl ?_); refine goesL_ (some 9) rfl rfl Try.func92 (by kernel_rfl) rfl #[.int .i64 a0_0, .bool a0_1] rfl q101_ ?_; (with_reducible refine (spec_LengthOf.calls k a0_0 a0_1 t345 _ A2.out).mono ?_); rintro e w13 ⟨rfl, hb⟩; refine ⟨_, rfl, ?_⟩; have n0_ := Aside0.mk (blk_below (g := gb344) (o := .cells #[.int .i64 a0_0, .bool a0_1, .int .i64 a0_2] 85 (0, 0)) q110_ hb); have n1_ := Aside0.mk (below_step q86_ hb); clear BK344; clear HB; have BK344 := n0_; have HB := n1_; clear n0_ n1_; (try clear hb); have hcz14_0 : w13.cell? ⟨gb344, 0, none⟩ = some (.int .i64 a0_0) := (blk_cell BK344.out 0).trans rfl; have hcz14_1 : w13.cell? ⟨gb344, 1, none⟩ = some (.bool a0_1) := (blk_cell BK344.out 1).trans rfl; have hcz14_2 : w13.cell? ⟨gb344, 2, none⟩ = some (.int .i64 a0_2) := (blk_cell BK344.out 2).trans rfl; have hfz14_0 := blk_frozen BK344.out 0; have hfz14_1 := blk_frozen BK344.out 1; have hfz14_2 := blk_frozen BK344.out 2) | ((with_reducible refine gate_callee (f := 94) rfl ?_); refine goesL_ (some 16) rfl rfl Try.func94 (by kernel_rfl) rfl #[.int .i64 a0_0, .bool a0_1] rfl q101_ ?_; (with_reducible refine (spec_l3Template.calls k a0_0 a0_1 t346 _ A7.out).mono ?_); rintro e w15 ⟨rfl, hb⟩; refine ⟨_, rfl, ?_⟩; have n0_ := Aside0.mk (blk_below (g := gb344) (o := .cells #[.int .i64 a0_0, .bool a0_1, .int .i64 a0_2] 85 (0, 0)) q110_ hb); have n1_ := Aside0.mk (below_step q86_ hb); clear BK344; clear HB; have BK344 := n0_; have HB := n1_; clear n0_ n1_; (try clear hb)) | ((with_reducible refine gate_callee (f := 93) rfl ?_); refine goesL_ (some 17) rfl rfl Try.func93 (by kernel_rfl) rfl #[.string t346] rfl q101_ ?_; (with_reducible refine (spec_l3Hole.calls k t346 t347 t348 _ A8.out).mono ?_); rintro e w16 ⟨rfl, hb⟩; refine ⟨_, rfl, ?_⟩; have n0_ := Aside0.mk (blk_below (g := gb344) (o := .cells #[.int .i64 a0_0, .bool a0_1, .int .i64 a0_2] 85 (0, 0)) q110_ hb); have n1_ := Aside0.mk (below_step q86_ hb); clear BK344; clear HB; have BK344 := n0_; have HB := n1_; clear n0_ n1_; (try clear hb); have hcz17_0 : w16.cell? ⟨gb344, 0, none⟩ = some (.int .i64 a0_0) := (blk_cell BK344.out 0).trans rfl; have hcz17_1 : w16.cell? ⟨gb344, 1, none⟩ = some (.bool a0_1) := (blk_cell BK344.out 1).trans rfl; have hcz17_2 : w16.cell? ⟨gb344, 2, none⟩ = some (.int .i64 a0_2) := (blk_cell BK344.out 2).trans rfl; have hfz17_0 := blk_frozen BK344.out 0; have hfz17_1 := blk_frozen BK344.out 1; have hfz17_2 := blk_frozen BK344.out 2) | ((with_reducible refine gate_callee (f := 41) rfl ?_); refine goesL_ (some 25) rfl rfl Try.func41 (by kernel_rfl) rfl #[.int .i64 a0_2, .int .i64 0, .int .i64 65535] rfl q101_ ?_; (with_reducible refine (spec_l1In.calls a0_2 0 65535 t349 _ A10.out).mono ?_); rintro e w' ⟨rfl, ⟨nd, rfl⟩⟩; refine ⟨_, rfl, ?_⟩))
   go_ret
   exact ⟨q103_, q86_⟩
  ·rw [if_neg c9] at H
   have c9b0 : (t348.toList == ([110, 49, 54] : List UInt8)) = false := beq_eq_false_iff_ne.mpr c9
   have c9b1 : (t348.toList != ([110, 49, 54] : List UInt8)) = true := bne_iff_ne.mpr c9
   by_cases c18 : t348.toList = ([110, 56] : List UInt8)
   ·rw [if_pos c18] at H
    have c18b0 : (t348.toList == ([110, 56] : List UInt8)) = true := beq_iff_eq.mpr c18
    have c18b1 : (t348.toList != ([110, 56] : List UInt8)) = false := bne_eq_false_iff_eq.mpr c18
    clear c18
    replace H := Option.bind_eq_some_iff.mp H
    obtain ⟨t350, A190, H⟩ := H
    have A19 := Aside0.mk A190
    clear A190
    obtain rfl := Option.some.inj H
    go_enter Try.func86, Try.ntmps86
    go_wp2_with (first | ((with_reducible refine gate_dst (N := 1) rfl ?_); refine box_event ?hg (N := 1) ?hd (cs := #[.int .i64 a0_0, .bool a0_1, .int .i64 a0_2]) (t := 85) ?hr ?_; (case hd => rfl); (case hg => rfl); (case hr => exact q175_); intro gb344 hg w20 hbox hb; have n0_ := Aside0.mk (below_step q102_ hb); have n1_ := Aside0.mk (hbox); have n2_ := Aside0.mk ((q80_ : w.heap.size ≤ gb344)); have n3_ := Aside0.mk ((q80_ : w.heap.size ≤ gb344)); clear HB; have HB := n0_; have BK344 := n1_; have GW344 := n2_; have GE344 := n3_; clear n0_ n1_ n2_ n3_; clear hb hbox hg; have hcz21_0 : w20.cell? ⟨gb344, 0, none⟩ = some (.int .i64 a0_0) := (blk_cell BK344.out 0).trans rfl; have hcz21_1 : w20.cell? ⟨gb344, 1, none⟩ = some (.bool a0_1) := (blk_cell BK344.out 1).trans rfl; have hcz21_2 : w20.cell? ⟨gb344, 2, none⟩ = some (.int .i64 a0_2) := (blk_cell BK344.out 2).trans rfl; have hfz21_0 := blk_frozen BK344.out 0; have hfz21_1 := blk_frozen BK344.out 1; have hfz21_2 := blk_frozen BK344.out 2) | ((with_reducible refine gate_callee (f := 92) rfl ?_); refine goesL_ (some 9) rfl rfl Try.func92 (by kernel_rfl) rfl #[.int .i64 a0_0, .bool a0_1] rfl q101_ ?_; (with_reducible refine (spec_LengthOf.calls k a0_0 a0_1 t345 _ A2.out).mono ?_); rintro e w22 ⟨rfl, hb⟩; refine ⟨_, rfl, ?_⟩; have n0_ := Aside0.mk (blk_below (g := gb344) (o := .cells #[.int .i64 a0_0, .bool a0_1, .int .i64 a0_2] 85 (0, 0)) q110_ hb); have n1_ := Aside0.mk (below_step q86_ hb); clear BK344; clear HB; have BK344 := n0_; have HB := n1_; clear n0_ n1_; (try clear hb); have hcz23_0 : w22.cell? ⟨gb344, 0, none⟩ = some (.int .i64 a0_0) := (blk_cell BK344.out 0).trans rfl; have hcz23_1 : w22.cell? ⟨gb344, 1, none⟩ = some (.bool a0_1) := (blk_cell BK344.out 1).trans rfl; have hcz23_2 : w22.cell? ⟨gb344, 2, none⟩ = some (.int .i64 a0_2) := (blk_cell BK344.out 2).trans rfl; have hfz23_0 := blk_frozen BK344.out 0; have hfz23_1 := blk_frozen BK344.out 1; have hfz23_2 := blk_frozen BK344.out 2) | ((with_reducible refine gate_callee (f := 94) rfl ?_); refine goesL_ (some 16) rfl rfl Try.func94 (by kernel_rfl) rfl #[.int .i64 a0_0, .bool a0_1] rfl q101_ ?_; (with_reducible refine (spec_l3Template.calls k a0_0 a0_1 t346 _ A7.out).mono ?_); rintro e w24 ⟨rfl, hb⟩; refine ⟨_, rfl, ?_⟩; have n0_ := Aside0.mk (blk_below (g := gb344) (o := .cells #[.int .i64 a0_0, .bool a0_1, .int .i64 a0_2] 85 (0, 0)) q110_ hb); have n1_ := Aside0.mk (below_step q86_ hb); clear BK344; clear HB; have BK344 := n0_; have HB := n1_; clear n0_ n1_; (try clear hb)) | ((with_reducible refine gate_callee (f := 93) rfl ?_); refine goesL_ (some 17) rfl rfl Try.func93 (by kernel_rfl) rfl #[.string t346] rfl q101_ ?_; (with_reducible refine (spec_l3Hole.calls k t346 t347 t348 _ A8.out).mono ?_); rintro e w25 ⟨rfl, hb⟩; refine ⟨_, rfl, ?_⟩; have n0_ := Aside0.mk (blk_below (g := gb344) (o := .cells #[.int .i64 a0_0, .bool a0_1, .int .i64 a0_2] 85 (0, 0)) q110_ hb); have n1_ := Aside0.mk (below_step q86_ hb); clear BK344; clear HB; have BK344 := n0_; have HB := n1_; clear n0_ n1_; (try clear hb); have hcz26_0 : w25.cell? ⟨gb344, 0, none⟩ = some (.int .i64 a0_0) := (blk_cell BK344.out 0).trans rfl; have hcz26_1 : w25.cell? ⟨gb344, 1, none⟩ = some (.bool a0_1) := (blk_cell BK344.out 1).trans rfl; have hcz26_2 : w25.cell? ⟨gb344, 2, none⟩ = some (.int .i64 a0_2) := (blk_cell BK344.out 2).trans rfl; have hfz26_0 := blk_frozen BK344.out 0; have hfz26_1 := blk_frozen BK344.out 1; have hfz26_2 := blk_frozen BK344.out 2) | ((with_reducible refine gate_callee (f := 41) rfl ?_); refine goesL_ (some 31) rfl rfl Try.func41 (by kernel_rfl) rfl #[.int .i64 a0_2, .int .i64 0, .int .i64 255] rfl q101_ ?_; (with_reducible refine (spec_l1In.calls a0_2 0 255 t350 _ A19.out).mono ?_); rintro e w' ⟨rfl, ⟨nd, rfl⟩⟩; refine ⟨_, rfl, ?_⟩))
    go_ret
    exact ⟨q103_, q86_⟩
   ·rw [if_neg c18] at H
    have c18b0 : (t348.toList == ([110, 56] : List UInt8)) = false := beq_eq_false_iff_ne.mpr c18
    have c18b1 : (t348.toList != ([110, 56] : List UInt8)) = true := bne_iff_ne.mpr c18
    by_cases c27 : t348.toList = ([101, 56] : List UInt8)
    ·rw [if_pos c27] at H
     have c27b0 : (t348.toList == ([101, 56] : List UInt8)) = true := beq_iff_eq.mpr c27
     have c27b1 : (t348.toList != ([101, 56] : List UInt8)) = false := bne_eq_false_iff_eq.mpr c27
     clear c27
     replace H := Option.bind_eq_some_iff.mp H
     obtain ⟨t351, A280, H⟩ := H
     have A28 := Aside0.mk A280
     clear A280
     obtain rfl := Option.some.inj H
     go_enter Try.func86, Try.ntmps86
     go_wp2_with (first | ((with_reducible refine gate_dst (N := 1) rfl ?_); refine box_event ?hg (N := 1) ?hd (cs := #[.int .i64 a0_0, .bool a0_1, .int .i64 a0_2]) (t := 85) ?hr ?_; (case hd => rfl); (case hg => rfl); (case hr => exact q175_); intro gb344 hg w29 hbox hb; have n0_ := Aside0.mk (below_step q102_ hb); have n1_ := Aside0.mk (hbox); have n2_ := Aside0.mk ((q80_ : w.heap.size ≤ gb344)); have n3_ := Aside0.mk ((q80_ : w.heap.size ≤ gb344)); clear HB; have HB := n0_; have BK344 := n1_; have GW344 := n2_; have GE344 := n3_; clear n0_ n1_ n2_ n3_; clear hb hbox hg; have hcz30_0 : w29.cell? ⟨gb344, 0, none⟩ = some (.int .i64 a0_0) := (blk_cell BK344.out 0).trans rfl; have hcz30_1 : w29.cell? ⟨gb344, 1, none⟩ = some (.bool a0_1) := (blk_cell BK344.out 1).trans rfl; have hcz30_2 : w29.cell? ⟨gb344, 2, none⟩ = some (.int .i64 a0_2) := (blk_cell BK344.out 2).trans rfl; have hfz30_0 := blk_frozen BK344.out 0; have hfz30_1 := blk_frozen BK344.out 1; have hfz30_2 := blk_frozen BK344.out 2) | ((with_reducible refine gate_callee (f := 92) rfl ?_); refine goesL_ (some 9) rfl rfl Try.func92 (by kernel_rfl) rfl #[.int .i64 a0_0, .bool a0_1] rfl q101_ ?_; (with_reducible refine (spec_LengthOf.calls k a0_0 a0_1 t345 _ A2.out).mono ?_); rintro e w31 ⟨rfl, hb⟩; refine ⟨_, rfl, ?_⟩; have n0_ := Aside0.mk (blk_below (g := gb344) (o := .cells #[.int .i64 a0_0, .bool a0_1, .int .i64 a0_2] 85 (0, 0)) q110_ hb); have n1_ := Aside0.mk (below_step q86_ hb); clear BK344; clear HB; have BK344 := n0_; have HB := n1_; clear n0_ n1_; (try clear hb); have hcz32_0 : w31.cell? ⟨gb344, 0, none⟩ = some (.int .i64 a0_0) := (blk_cell BK344.out 0).trans rfl; have hcz32_1 : w31.cell? ⟨gb344, 1, none⟩ = some (.bool a0_1) := (blk_cell BK344.out 1).trans rfl; have hcz32_2 : w31.cell? ⟨gb344, 2, none⟩ = some (.int .i64 a0_2) := (blk_cell BK344.out 2).trans rfl; have hfz32_0 := blk_frozen BK344.out 0; have hfz32_1 := blk_frozen BK344.out 1; have hfz32_2 := blk_frozen BK344.out 2) | ((with_reducible refine gate_callee (f := 94) rfl ?_); refine goesL_ (some 16) rfl rfl Try.func94 (by kernel_rfl) rfl #[.int .i64 a0_0, .bool a0_1] rfl q101_ ?_; (with_reducible refine (spec_l3Template.calls k a0_0 a0_1 t346 _ A7.out).mono ?_); rintro e w33 ⟨rfl, hb⟩; refine ⟨_, rfl, ?_⟩; have n0_ := Aside0.mk (blk_below (g := gb344) (o := .cells #[.int .i64 a0_0, .bool a0_1, .int .i64 a0_2] 85 (0, 0)) q110_ hb); have n1_ := Aside0.mk (below_step q86_ hb); clear BK344; clear HB; have BK344 := n0_; have HB := n1_; clear n0_ n1_; (try clear hb)) | ((with_reducible refine gate_callee (f := 93) rfl ?_); refine goesL_ (some 17) rfl rfl Try.func93 (by kernel_rfl) rfl #[.string t346] rfl q101_ ?_; (with_reducible refine (spec_l3Hole.calls k t346 t347 t348 _ A8.out).mono ?_); rintro e w34 ⟨rfl, hb⟩; refine ⟨_, rfl, ?_⟩; have n0_ := Aside0.mk (blk_below (g := gb344) (o := .cells #[.int .i64 a0_0, .bool a0_1, .int .i64 a0_2] 85 (0, 0)) q110_ hb); have n1_ := Aside0.mk (below_step q86_ hb); clear BK344; clear HB; have BK344 := n0_; have HB := n1_; clear n0_ n1_; (try clear hb); have hcz35_0 : w34.cell? ⟨gb344, 0, none⟩ = some (.int .i64 a0_0) := (blk_cell BK344.out 0).trans rfl; have hcz35_1 : w34.cell? ⟨gb344, 1, none⟩ = some (.bool a0_1) := (blk_cell BK344.out 1).trans rfl; have hcz35_2 : w34.cell? ⟨gb344, 2, none⟩ = some (.int .i64 a0_2) := (blk_cell BK344.out 2).trans rfl; have hfz35_0 := blk_frozen BK344.out 0; have hfz35_1 := blk_frozen BK344.out 1; have hfz35_2 := blk_frozen BK344.out 2) | ((with_reducible refine gate_callee (f := 41) rfl ?_); refine goesL_ (some 31) rfl rfl Try.func41 (by kernel_rfl) rfl #[.int .i64 a0_2, .int .i64 0, .int .i64 255] rfl q101_ ?_; (with_reducible refine (spec_l1In.calls a0_2 0 255 t351 _ A28.out).mono ?_); rintro e w' ⟨rfl, ⟨nd, rfl⟩⟩; refine ⟨_, rfl, ?_⟩))
     go_ret
     exact ⟨q103_, q86_⟩
    ·rw [if_neg c27] at H
     have c27b0 : (t348.toList == ([101, 56] : List UInt8)) = false := beq_eq_false_iff_ne.mpr c27
     have c27b1 : (t348.toList != ([101, 56] : List UInt8)) = true := bne_iff_ne.mpr c27
     obtain rfl := Option.some.inj H
     go_enter Try.func86, Try.ntmps86
     go_wp2_with (first | ((with_reducible refine gate_dst (N := 1) rfl ?_); refine box_event ?hg (N := 1) ?hd (cs := #[.int .i64 a0_0, .bool a0_1, .int .i64 a0_2]) (t := 85) ?hr ?_; (case hd => rfl); (case hg => rfl); (case hr => exact q175_); intro gb344 hg w36 hbox hb; have n0_ := Aside0.mk (below_step q102_ hb); have n1_ := Aside0.mk (hbox); have n2_ := Aside0.mk ((q80_ : w.heap.size ≤ gb344)); have n3_ := Aside0.mk ((q80_ : w.heap.size ≤ gb344)); clear HB; have HB := n0_; have BK344 := n1_; have GW344 := n2_; have GE344 := n3_; clear n0_ n1_ n2_ n3_; clear hb hbox hg; have hcz37_0 : w36.cell? ⟨gb344, 0, none⟩ = some (.int .i64 a0_0) := (blk_cell BK344.out 0).trans rfl; have hcz37_1 : w36.cell? ⟨gb344, 1, none⟩ = some (.bool a0_1) := (blk_cell BK344.out 1).trans rfl; have hcz37_2 : w36.cell? ⟨gb344, 2, none⟩ = some (.int .i64 a0_2) := (blk_cell BK344.out 2).trans rfl; have hfz37_0 := blk_frozen BK344.out 0; have hfz37_1 := blk_frozen BK344.out 1; have hfz37_2 := blk_frozen BK344.out 2) | ((with_reducible refine gate_callee (f := 92) rfl ?_); refine goesL_ (some 9) rfl rfl Try.func92 (by kernel_rfl) rfl #[.int .i64 a0_0, .bool a0_1] rfl q101_ ?_; (with_reducible refine (spec_LengthOf.calls k a0_0 a0_1 t345 _ A2.out).mono ?_); rintro e w38 ⟨rfl, hb⟩; refine ⟨_, rfl, ?_⟩; have n0_ := Aside0.mk (blk_below (g := gb344) (o := .cells #[.int .i64 a0_0, .bool a0_1, .int .i64 a0_2] 85 (0, 0)) q110_ hb); have n1_ := Aside0.mk (below_step q86_ hb); clear BK344; clear HB; have BK344 := n0_; have HB := n1_; clear n0_ n1_; (try clear hb); have hcz39_0 : w38.cell? ⟨gb344, 0, none⟩ = some (.int .i64 a0_0) := (blk_cell BK344.out 0).trans rfl; have hcz39_1 : w38.cell? ⟨gb344, 1, none⟩ = some (.bool a0_1) := (blk_cell BK344.out 1).trans rfl; have hcz39_2 : w38.cell? ⟨gb344, 2, none⟩ = some (.int .i64 a0_2) := (blk_cell BK344.out 2).trans rfl; have hfz39_0 := blk_frozen BK344.out 0; have hfz39_1 := blk_frozen BK344.out 1; have hfz39_2 := blk_frozen BK344.out 2) | ((with_reducible refine gate_callee (f := 94) rfl ?_); refine goesL_ (some 16) rfl rfl Try.func94 (by kernel_rfl) rfl #[.int .i64 a0_0, .bool a0_1] rfl q101_ ?_; (with_reducible refine (spec_l3Template.calls k a0_0 a0_1 t346 _ A7.out).mono ?_); rintro e w40 ⟨rfl, hb⟩; refine ⟨_, rfl, ?_⟩; have n0_ := Aside0.mk (blk_below (g := gb344) (o := .cells #[.int .i64 a0_0, .bool a0_1, .int .i64 a0_2] 85 (0, 0)) q110_ hb); have n1_ := Aside0.mk (below_step q86_ hb); clear BK344; clear HB; have BK344 := n0_; have HB := n1_; clear n0_ n1_; (try clear hb)) | ((with_reducible refine gate_callee (f := 93) rfl ?_); refine goesL_ (some 17) rfl rfl Try.func93 (by kernel_rfl) rfl #[.string t346] rfl q101_ ?_; (with_reducible refine (spec_l3Hole.calls k t346 t347 t348 _ A8.out).mono ?_); rintro e w41 ⟨rfl, hb⟩; refine ⟨_, rfl, ?_⟩; have n0_ := Aside0.mk (blk_below (g := gb344) (o := .cells #[.int .i64 a0_0, .bool a0_1, .int .i64 a0_2] 85 (0, 0)) q110_ hb); have n1_ := Aside0.mk (below_step q86_ hb); clear BK344; clear HB; have BK344 := n0_; have HB := n1_; clear n0_ n1_; (try clear hb); have hcz42_0 : w41.cell? ⟨gb344, 0, none⟩ = some (.int .i64 a0_0) := (blk_cell BK344.out 0).trans rfl; have hcz42_1 : w41.cell? ⟨gb344, 1, none⟩ = some (.bool a0_1) := (blk_cell BK344.out 1).trans rfl; have hcz42_2 : w41.cell? ⟨gb344, 2, none⟩ = some (.int .i64 a0_2) := (blk_cell BK344.out 2).trans rfl; have hfz42_0 := blk_frozen BK344.out 0; have hfz42_1 := blk_frozen BK344.out 1; have hfz42_2 := blk_frozen BK344.out 2))
     go_ret
     exact ⟨q103_, q86_⟩
def spec_InsBytes.f (k : Nat) (a0_0 : Int) (a0_1 : Bool) (a0_2 : Int) : Option (ByteArray) := (spec_InsOk.f k a0_0 a0_1 a0_2).bind fun t353 => (if t353 = true then (if a0_1 = true then (some (strOfNums (([203, (a0_0) % 256] : List Int)))) else ((spec_l3Length.f k a0_0 false).bind fun t357 => (if t357 = 2 then (some (strOfNums (([(a0_0) % 256, (a0_2) % 256] : List Int)))) else (if t357 = 3 then (some (strOfNums (([(a0_0) % 256, (a0_2) % 256, (a0_2 / 256) % 256] : List Int)))) else (some (strOfNums (([(a0_0) % 256] : List Int)))))))) else (some (⟨#[]⟩ : ByteArray)))
theorem spec_InsBytes.mono : ∀ a0 a1 a2 k, LeO (spec_InsBytes.f k a0 a1 a2) (spec_InsBytes.f (k + 1) a0 a1 a2) := by
 intro a0 a1 a2 k
 unfold spec_InsBytes.f
 repeat' first
   | (with_reducible first | exact spec_InsOk.mono _ _ _ _ | exact spec_l3Length.mono _ _ _ | exact LeO.refl _ | exact LeO.none _ | refine LeO.ite ?_ ?_ | refine LeO.bind ?_ (fun _ => ?_))
   | exact spec_InsOk.mono _ _ _ _
   | exact spec_l3Length.mono _ _ _
   | exact LeO.none _
   | refine LeO.ite ?_ ?_
   | refine LeO.bind ?_ (fun _ => ?_)
theorem spec_InsBytes.calls (k : Nat) (a0_0 : Int) (a0_1 : Bool) (a0_2 : Int) (r : ByteArray) (w : World) (h : spec_InsBytes.f k a0_0 a0_1 a0_2 = some r) :
  Calls Try.prog 79 #[.agg #[.int .i64 a0_0, .bool a0_1, .int .i64 a0_2]] w fun e w' => e = .returned (.string r) ∧ Below w.heap.size w w' := by
 have hu85 := Try.underlying85
 have HB := Aside0.mk (Below.refl w.heap.size w)
 have H : ((spec_InsOk.f k a0_0 a0_1 a0_2).bind fun t353 => (if t353 = true then (if a0_1 = true then (some (strOfNums (([203, (a0_0) % 256] : List Int)))) else ((spec_l3Length.f k a0_0 false).bind fun t357 => (if t357 = 2 then (some (strOfNums (([(a0_0) % 256, (a0_2) % 256] : List Int)))) else (if t357 = 3 then (some (strOfNums (([(a0_0) % 256, (a0_2) % 256, (a0_2 / 256) % 256] : List Int)))) else (some (strOfNums (([(a0_0) % 256] : List Int)))))))) else (some (⟨#[]⟩ : ByteArray)))) = some r := h
 clear h
 replace H := Option.bind_eq_some_iff.mp H
 obtain ⟨t353, A20, H⟩ := H
 have A2 := Aside0.mk A20
 clear A20
 by_cases c3 : t353 = true
 ·subst c3
  replace H : (if a0_1 = true then (some (strOfNums (([203, (a0_0) % 256] : List Int)))) else ((spec_l3Length.f k a0_0 false).bind fun t357 => (if t357 = 2 then (some (strOfNums (([(a0_0) % 256, (a0_2) % 256] : List Int)))) else (if t357 = 3 then (some (strOfNums (([(a0_0) % 256, (a0_2) % 256, (a0_2 / 256) % 256] : List Int)))) else (some (strOfNums (([(a0_0) % 256] : List Int)))))))) = some r := by rw [if_pos rfl] at H; exact H
  by_cases c4 : a0_1 = true
  ·subst c4
   replace H : (some (strOfNums (([203, (a0_0) % 256] : List Int)))) = some r := by rw [if_pos rfl] at H; exact H
   obtain ⟨y354, hy354⟩ : ∃ y_ : List Int, y_ = (([203, (a0_0) % 256] : List Int)) := ⟨_, rfl⟩
   replace H : (some (strOfNums y354)) = some r := by first | (rw [hy354]; with_reducible exact H) | (have H2_ := (Option.bind_some _ _).symm.trans H; rw [hy354]; with_reducible exact H2_) | (have H2_ := (Option.bind_some _ _).symm.trans H; with_reducible exact H2_) | with_reducible exact H | (rw [hy354]; exact H) | exact H
   have Ny354 := Aside0.mk hy354
   clear hy354
   obtain rfl := Option.some.inj H
   go_enter Try.func79, Try.ntmps79
   go_wp2_with (first | ((with_reducible refine gate_dst (N := 1) rfl ?_); refine box_event ?hg (N := 1) ?hd (cs := #[.int .i64 a0_0, .bool true, .int .i64 a0_2]) (t := 85) ?hr ?_; (case hd => rfl); (case hg => rfl); (case hr => exact q175_); intro gb352 hg w5 hbox hb; have n0_ := Aside0.mk (below_step q102_ hb); have n1_ := Aside0.mk (hbox); have n2_ := Aside0.mk ((q80_ : w.heap.size ≤ gb352)); have n3_ := Aside0.mk ((q80_ : w.heap.size ≤ gb352)); clear HB; have HB := n0_; have BK352 := n1_; have GW352 := n2_; have GE352 := n3_; clear n0_ n1_ n2_ n3_; clear hb hbox hg; have hcz6_0 : w5.cell? ⟨gb352, 0, none⟩ = some (.int .i64 a0_0) := (blk_cell BK352.out 0).trans rfl; have hcz6_1 : w5.cell? ⟨gb352, 1, none⟩ = some (.bool true) := (blk_cell BK352.out 1).trans rfl; have hcz6_2 : w5.cell? ⟨gb352, 2, none⟩ = some (.int .i64 a0_2) := (blk_cell BK352.out 2).trans rfl; have hfz6_0 := blk_frozen BK352.out 0; have hfz6_1 := blk_frozen BK352.out 1; have hfz6_2 := blk_frozen BK352.out 2) | ((with_reducible refine gate_callee (f := 86) rfl ?_); refine goesL_ (some 4) rfl rfl Try.func86 (by kernel_rfl) rfl #[.agg #[.int .i64 a0_0, .bool true, .int .i64 a0_2]] rfl q101_ ?_; (with_reducible refine (spec_InsOk.calls k a0_0 true a0_2 true _ A2.out).mono ?_); rintro e w7 ⟨rfl, hb⟩; refine ⟨_, rfl, ?_⟩; have n0_ := Aside0.mk (blk_below (g := gb352) (o := .cells #[.int .i64 a0_0, .bool true, .int .i64 a0_2] 85 (0, 0)) q111_ hb); have n1_ := Aside0.mk (below_step q87_ hb); clear BK352; clear HB; have BK352 := n0_; have HB := n1_; clear n0_ n1_; (try clear hb); have hcz8_0 : w7.cell? ⟨gb352, 0, none⟩ = some (.int .i64 a0_0) := (blk_cell BK352.out 0).trans rfl; have hcz8_1 : w7.cell? ⟨gb352, 1, none⟩ = some (.bool true) := (blk_cell BK352.out 1).trans rfl; have hcz8_2 : w7.cell? ⟨gb352, 2, none⟩ = some (.int .i64 a0_2) := (blk_cell BK352.out 2).trans rfl; have hfz8_0 := blk_frozen BK352.out 0; have hfz8_1 := blk_frozen BK352.out 1; have hfz8_2 := blk_frozen BK352.out 2) | ((with_reducible refine gate_dst (N := 11) rfl ?_); refine Kd.R_lit (Kd.int .u8) _ 5 ?hg (N := 11) ?hd (xs := ([203, (a0_0) % 256] : List Int)) (inner := [.int .u8 203, .int .u8 ((a0_0) % 256)]) (ok := fun _ => True) (okp := fun _ => True) ?hr ?hp (fun _ hk => hk) trivial (Below.refl _ _) (Nat.le_refl _) (by simp) ?_; (case hd => rfl); (case hg => rfl); (case hr => exact q175_); (case hp => exact (Reps.one (show Kd.M (Kd.int .u8) _ _ _ 203 [.int .u8 203] from rfl) (Reps.one (show Kd.M (Kd.int .u8) _ _ _ ((a0_0) % 256) [.int .u8 ((a0_0) % 256)] from rfl) (Reps.none _ _)))); intro v355 w9 ho10 hb hg_ hnew_; clear hg_ hnew_; (first | rw [← Ny354.out] at ho10 | (simp only [Int.reduceToNat] at ho10; rw [← Ny354.out] at ho10)); have n0_ := Aside0.mk (Kd.R_lower ho10 (below_size q87_)); have n1_ := Aside0.mk (blk_below (g := gb352) (o := .cells #[.int .i64 a0_0, .bool true, .int .i64 a0_2] 85 (0, 0)) q111_ hb); have n2_ := Aside0.mk (below_step q87_ hb); clear BK352; clear HB; have HO356 := n0_; have BK352 := n1_; have HB := n2_; clear n0_ n1_ n2_; clear hb ho10; have hcv11 := own_string (P := Try.prog) Try.underlying25 Try.underlying5 Try.underlying9 (Kd.own_of_R HO356.out); have hcvq11 := fun m_ : Nat => own_string (P := Try.prog) Try.underlying25 Try.underlying5 Try.underlying9 (Kd.own_of_R (Kd.R_drewN HO356.out m_))))
   go_ret
   exact ⟨q103_, q87_⟩
  ·replace c4 := Bool.eq_false_iff.mpr c4
   subst c4
   replace H : ((spec_l3Length.f k a0_0 false).bind fun t357 => (if t357 = 2 then (some (strOfNums (([(a0_0) % 256, (a0_2) % 256] : List Int)))) else (if t357 = 3 then (some (strOfNums (([(a0_0) % 256, (a0_2) % 256, (a0_2 / 256) % 256] : List Int)))) else (some (strOfNums (([(a0_0) % 256] : List Int))))))) = some r := by rw [if_neg (show ¬ (false = true) by decide)] at H; exact H
   replace H := Option.bind_eq_some_iff.mp H
   obtain ⟨t357, A120, H⟩ := H
   have A12 := Aside0.mk A120
   clear A120
   by_cases c13 : t357 = 2
   ·rw [if_pos c13] at H
    have c13b0 : (t357 == 2) = true := beq_iff_eq.mpr c13
    have c13b1 : (t357 != 2) = false := bne_eq_false_iff_eq.mpr c13
    clear c13
    obtain ⟨y358, hy358⟩ : ∃ y_ : List Int, y_ = (([(a0_0) % 256, (a0_2) % 256] : List Int)) := ⟨_, rfl⟩
    replace H : (some (strOfNums y358)) = some r := by first | (rw [hy358]; with_reducible exact H) | (have H2_ := (Option.bind_some _ _).symm.trans H; rw [hy358]; with_reducible exact H2_) | (have H2_ := (Option.bind_some _ _).symm.trans H; with_reducible exact H2_) | with_reducible exact H | (rw [hy358]; exact H) | exact H
    have Ny358 := Aside0.mk hy358
    clear hy358
    obtain rfl := Option.some.inj H
    go_enter Try.func79, Try.ntmps79
    go_wp2_with (first | ((with_reducible refine gate_dst (N := 1) rfl ?_); refine box_event ?hg (N := 1) ?hd (cs := #[.int .i64 a0_0, .bool false, .int .i64 a0_2]) (t := 85) ?hr ?_; (case hd => rfl); (case hg => rfl); (case hr => exact q175_); intro gb352 hg w14 hbox hb; have n0_ := Aside0.mk (below_step q102_ hb); have n1_ := Aside0.mk (hbox); have n2_ := Aside0.mk ((q80_ : w.heap.size ≤ gb352)); have n3_ := Aside0.mk ((q80_ : w.heap.size ≤ gb352)); clear HB; have HB := n0_; have BK352 := n1_; have GW352 := n2_; have GE352 := n3_; clear n0_ n1_ n2_ n3_; clear hb hbox hg; have hcz15_0 : w14.cell? ⟨gb352, 0, none⟩ = some (.int .i64 a0_0) := (blk_cell BK352.out 0).trans rfl; have hcz15_1 : w14.cell? ⟨gb352, 1, none⟩ = some (.bool false) := (blk_cell BK352.out 1).trans rfl; have hcz15_2 : w14.cell? ⟨gb352, 2, none⟩ = some (.int .i64 a0_2) := (blk_cell BK352.out 2).trans rfl; have hfz15_0 := blk_frozen BK352.out 0; have hfz15_1 := blk_frozen BK352.out 1; have hfz15_2 := blk_frozen BK352.out 2) | ((with_reducible refine gate_callee (f := 86) rfl ?_); refine goesL_ (some 4) rfl rfl Try.func86 (by kernel_rfl) rfl #[.agg #[.int .i64 a0_0, .bool false, .int .i64 a0_2]] rfl q101_ ?_; (with_reducible refine (spec_InsOk.calls k a0_0 false a0_2 true _ A2.out).mono ?_); rintro e w16 ⟨rfl, hb⟩; refine ⟨_, rfl, ?_⟩; have n0_ := Aside0.mk (blk_below (g := gb352) (o := .cells #[.int .i64 a0_0, .bool false, .int .i64 a0_2] 85 (0, 0)) q111_ hb); have n1_ := Aside0.mk (below_step q87_ hb); clear BK352; clear HB; have BK352 := n0_; have HB := n1_; clear n0_ n1_; (try clear hb); have hcz17_0 : w16.cell? ⟨gb352, 0, none⟩ = some (.int .i64 a0_0) := (blk_cell BK352.out 0).trans rfl; have hcz17_1 : w16.cell? ⟨gb352, 1, none⟩ = some (.bool false) := (blk_cell BK352.out 1).trans rfl; have hcz17_2 : w16.cell? ⟨gb352, 2, none⟩ = some (.int .i64 a0_2) := (blk_cell BK352.out 2).trans rfl; have hfz17_0 := blk_frozen BK352.out 0; have hfz17_1 := blk_frozen BK352.out 1; have hfz17_2 := blk_frozen BK352.out 2) | ((with_reducible refine gate_callee (f := 87) rfl ?_); refine goesL_ (some 15) rfl rfl Try.func87 (by kernel_rfl) rfl #[.int .i64 a0_0, .bool false] rfl q101_ ?_; (with_reducible refine (spec_l3Length.calls k a0_0 false t357 _ A12.out).mono ?_); rintro e w18 ⟨rfl, hb⟩; refine ⟨_, rfl, ?_⟩; have n0_ := Aside0.mk (blk_below (g := gb352) (o := .cells #[.int .i64 a0_0, .bool false, .int .i64 a0_2] 85 (0, 0)) q111_ hb); have n1_ := Aside0.mk (below_step q87_ hb); clear BK352; clear HB; have BK352 := n0_; have HB := n1_; clear n0_ n1_; (try clear hb); have hcz19_0 : w18.cell? ⟨gb352, 0, none⟩ = some (.int .i64 a0_0) := (blk_cell BK352.out 0).trans rfl; have hcz19_1 : w18.cell? ⟨gb352, 1, none⟩ = some (.bool false) := (blk_cell BK352.out 1).trans rfl; have hcz19_2 : w18.cell? ⟨gb352, 2, none⟩ = some (.int .i64 a0_2) := (blk_cell BK352.out 2).trans rfl; have hfz19_0 := blk_frozen BK352.out 0; have hfz19_1 := blk_frozen BK352.out 1; have hfz19_2 := blk_frozen BK352.out 2) | ((with_reducible refine gate_dst (N := 24) rfl ?_); refine Kd.R_lit (Kd.int .u8) _ 5 ?hg (N := 24) ?hd (xs := ([(a0_0) % 256, (a0_2) % 256] : List Int)) (inner := [.int .u8 ((a0_0) % 256), .int .u8 ((a0_2) % 256)]) (ok := fun _ => True) (okp := fun _ => True) ?hr ?hp (fun _ hk => hk) trivial (Below.refl _ _) (Nat.le_refl _) (by simp) ?_; (case hd => rfl); (case hg => rfl); (case hr => exact q175_); (case hp => exact (Reps.one (show Kd.M (Kd.int .u8) _ _ _ ((a0_0) % 256) [.int .u8 ((a0_0) % 256)] from rfl) (Reps.one (show Kd.M (Kd.int .u8) _ _ _ ((a0_2) % 256) [.int .u8 ((a0_2) % 256)] from rfl) (Reps.none _ _)))); intro v359 w20 ho21 hb hg_ hnew_; clear hg_ hnew_; (first | rw [← Ny358.out] at ho21 | (simp only [Int.reduceToNat] at ho21; rw [← Ny358.out] at ho21)); have n0_ := Aside0.mk (Kd.R_lower ho21 (below_size q87_)); have n1_ := Aside0.mk (blk_below (g := gb352) (o := .cells #[.int .i64 a0_0, .bool false, .int .i64 a0_2] 85 (0, 0)) q111_ hb); have n2_ := Aside0.mk (below_step q87_ hb); clear BK352; clear HB; have HO360 := n0_; have BK352 := n1_; have HB := n2_; clear n0_ n1_ n2_; clear hb ho21; have hcv22 := own_string (P := Try.prog) Try.underlying25 Try.underlying5 Try.underlying9 (Kd.own_of_R HO360.out); have hcvq22 := fun m_ : Nat => own_string (P := Try.prog) Try.underlying25 Try.underlying5 Try.underlying9 (Kd.own_of_R (Kd.R_drewN HO360.out m_))))
    go_ret
    exact ⟨q103_, q87_⟩
   ·rw [if_neg c13] at H
    have c13b0 : (t357 == 2) = false := beq_eq_false_iff_ne.mpr c13
    have c13b1 : (t357 != 2) = true := bne_iff_ne.mpr c13
    by_cases c23 : t357 = 3
    ·rw [if_pos c23] at H
     have c23b0 : (t357 == 3) = true := beq_iff_eq.mpr c23
     have c23b1 : (t357 != 3) = false := bne_eq_false_iff_eq.mpr c23
     clear c23
     obtain ⟨y361, hy361⟩ : ∃ y_ : List Int, y_ = (([(a0_0) % 256, (a0_2) % 256, (a0_2 / 256) % 256] : List Int)) := ⟨_, rfl⟩
     replace H : (some (strOfNums y361)) = some r := by first | (rw [hy361]; with_reducible exact H) | (have H2_ := (Option.bind_some _ _).symm.trans H; rw [hy361]; with_reducible exact H2_) | (have H2_ := (Option.bind_some _ _).symm.trans H; with_reducible exact H2_) | with_reducible exact H | (rw [hy361]; exact H) | exact H
     have Ny361 := Aside0.mk hy361
     clear hy361
     obtain rfl := Option.some.inj H
     go_enter Try.func79, Try.ntmps79
     go_wp2_with (first | ((with_reducible refine gate_dst (N := 1) rfl ?_); refine box_event ?hg (N := 1) ?hd (cs := #[.int .i64 a0_0, .bool false, .int .i64 a0_2]) (t := 85) ?hr ?_; (case hd => rfl); (case hg => rfl); (case hr => exact q175_); intro gb352 hg w24 hbox hb; have n0_ := Aside0.mk (below_step q102_ hb); have n1_ := Aside0.mk (hbox); have n2_ := Aside0.mk ((q80_ : w.heap.size ≤ gb352)); have n3_ := Aside0.mk ((q80_ : w.heap.size ≤ gb352)); clear HB; have HB := n0_; have BK352 := n1_; have GW352 := n2_; have GE352 := n3_; clear n0_ n1_ n2_ n3_; clear hb hbox hg; have hcz25_0 : w24.cell? ⟨gb352, 0, none⟩ = some (.int .i64 a0_0) := (blk_cell BK352.out 0).trans rfl; have hcz25_1 : w24.cell? ⟨gb352, 1, none⟩ = some (.bool false) := (blk_cell BK352.out 1).trans rfl; have hcz25_2 : w24.cell? ⟨gb352, 2, none⟩ = some (.int .i64 a0_2) := (blk_cell BK352.out 2).trans rfl; have hfz25_0 := blk_frozen BK352.out 0; have hfz25_1 := blk_frozen BK352.out 1; have hfz25_2 := blk_frozen BK352.out 2) | ((with_reducible refine gate_callee (f := 86) rfl ?_); refine goesL_ (some 4) rfl rfl Try.func86 (by kernel_rfl) rfl #[.agg #[.int .i64 a0_0, .bool false, .int .i64 a0_2]] rfl q101_ ?_; (with_reducible refine (spec_InsOk.calls k a0_0 false a0_2 true _ A2.out).mono ?_); rintro e w26 ⟨rfl, hb⟩; refine ⟨_, rfl, ?_⟩; have n0_ := Aside0.mk (blk_below (g := gb352) (o := .cells #[.int .i64 a0_0, .bool false, .int .i64 a0_2] 85 (0, 0)) q111_ hb); have n1_ := Aside0.mk (below_step q87_ hb); clear BK352; clear HB; have BK352 := n0_; have HB := n1_; clear n0_ n1_; (try clear hb); have hcz27_0 : w26.cell? ⟨gb352, 0, none⟩ = some (.int .i64 a0_0) := (blk_cell BK352.out 0).trans rfl; have hcz27_1 : w26.cell? ⟨gb352, 1, none⟩ = some (.bool false) := (blk_cell BK352.out 1).trans rfl; have hcz27_2 : w26.cell? ⟨gb352, 2, none⟩ = some (.int .i64 a0_2) := (blk_cell BK352.out 2).trans rfl; have hfz27_0 := blk_frozen BK352.out 0; have hfz27_1 := blk_frozen BK352.out 1; have hfz27_2 := blk_frozen BK352.out 2) | ((with_reducible refine gate_callee (f := 87) rfl ?_); refine goesL_ (some 15) rfl rfl Try.func87 (by kernel_rfl) rfl #[.int .i64 a0_0, .bool false] rfl q101_ ?_; (with_reducible refine (spec_l3Length.calls k a0_0 false t357 _ A12.out).mono ?_); rintro e w28 ⟨rfl, hb⟩; refine ⟨_, rfl, ?_⟩; have n0_ := Aside0.mk (blk_below (g := gb352) (o := .cells #[.int .i64 a0_0, .bool false, .int .i64 a0_2] 85 (0, 0)) q111_ hb); have n1_ := Aside0.mk (below_step q87_ hb); clear BK352; clear HB; have BK352 := n0_; have HB := n1_; clear n0_ n1_; (try clear hb); have hcz29_0 : w28.cell? ⟨gb352, 0, none⟩ = some (.int .i64 a0_0) := (blk_cell BK352.out 0).trans rfl; have hcz29_1 : w28.cell? ⟨gb352, 1, none⟩ = some (.bool false) := (blk_cell BK352.out 1).trans rfl; have hcz29_2 : w28.cell? ⟨gb352, 2, none⟩ = some (.int .i64 a0_2) := (blk_cell BK352.out 2).trans rfl; have hfz29_0 := blk_frozen BK352.out 0; have hfz29_1 := blk_frozen BK352.out 1; have hfz29_2 := blk_frozen BK352.out 2) | ((with_reducible refine gate_dst (N := 38) rfl ?_); refine Kd.R_lit (Kd.int .u8) _ 5 ?hg (N := 38) ?hd (xs := ([(a0_0) % 256, (a0_2) % 256, (a0_2 / 256) % 256] : List Int)) (inner := [.int .u8 ((a0_0) % 256), .int .u8 ((a0_2) % 256), .int .u8 ((a0_2 / 256) % 256)]) (ok := fun _ => True) (okp := fun _ => True) ?hr ?hp (fun _ hk => hk) trivial (Below.refl _ _) (Nat.le_refl _) (by simp) ?_; (case hd => rfl); (case hg => rfl); (case hr => exact q175_); (case hp => exact (Reps.one (show Kd.M (Kd.int .u8) _ _ _ ((a0_0) % 256) [.int .u8 ((a0_0) % 256)] from rfl) (Reps.one (show Kd.M (Kd.int .u8) _ _ _ ((a0_2) % 256) [.int .u8 ((a0_2) % 256)] from rfl) (Reps.one (show Kd.M (Kd.int .u8) _ _ _ ((a0_2 / 256) % 256) [.int .u8 ((a0_2 / 256) % 256)] from rfl) (Reps.none _ _))))); intro v362 w30 ho31 hb hg_ hnew_; clear hg_ hnew_; (first | rw [← Ny361.out] at ho31 | (simp only [Int.reduceToNat] at ho31; rw [← Ny361.out] at ho31)); have n0_ := Aside0.mk (Kd.R_lower ho31 (below_size q87_)); have n1_ := Aside0.mk (blk_below (g := gb352) (o := .cells #[.int .i64 a0_0, .bool false, .int .i64 a0_2] 85 (0, 0)) q111_ hb); have n2_ := Aside0.mk (below_step q87_ hb); clear BK352; clear HB; have HO363 := n0_; have BK352 := n1_; have HB := n2_; clear n0_ n1_ n2_; clear hb ho31; have hcv32 := own_string (P := Try.prog) Try.underlying25 Try.underlying5 Try.underlying9 (Kd.own_of_R HO363.out); have hcvq32 := fun m_ : Nat => own_string (P := Try.prog) Try.underlying25 Try.underlying5 Try.underlying9 (Kd.own_of_R (Kd.R_drewN HO363.out m_))))
     go_ret
     exact ⟨q103_, q87_⟩
    ·rw [if_neg c23] at H
     have c23b0 : (t357 == 3) = false := beq_eq_false_iff_ne.mpr c23
     have c23b1 : (t357 != 3) = true := bne_iff_ne.mpr c23
     obtain ⟨y364, hy364⟩ : ∃ y_ : List Int, y_ = (([(a0_0) % 256] : List Int)) := ⟨_, rfl⟩
     replace H : (some (strOfNums y364)) = some r := by first | (rw [hy364]; with_reducible exact H) | (have H2_ := (Option.bind_some _ _).symm.trans H; rw [hy364]; with_reducible exact H2_) | (have H2_ := (Option.bind_some _ _).symm.trans H; with_reducible exact H2_) | with_reducible exact H | (rw [hy364]; exact H) | exact H
     have Ny364 := Aside0.mk hy364
     clear hy364
     obtain rfl := Option.some.inj H
     go_enter Try.func79, Try.ntmps79
     go_wp2_with (first | ((with_reducible refine gate_dst (N := 1) rfl ?_); refine box_event ?hg (N := 1) ?hd (cs := #[.int .i64 a0_0, .bool false, .int .i64 a0_2]) (t := 85) ?hr ?_; (case hd => rfl); (case hg => rfl); (case hr => exact q175_); intro gb352 hg w33 hbox hb; have n0_ := Aside0.mk (below_step q102_ hb); have n1_ := Aside0.mk (hbox); have n2_ := Aside0.mk ((q80_ : w.heap.size ≤ gb352)); have n3_ := Aside0.mk ((q80_ : w.heap.size ≤ gb352)); clear HB; have HB := n0_; have BK352 := n1_; have GW352 := n2_; have GE352 := n3_; clear n0_ n1_ n2_ n3_; clear hb hbox hg; have hcz34_0 : w33.cell? ⟨gb352, 0, none⟩ = some (.int .i64 a0_0) := (blk_cell BK352.out 0).trans rfl; have hcz34_1 : w33.cell? ⟨gb352, 1, none⟩ = some (.bool false) := (blk_cell BK352.out 1).trans rfl; have hcz34_2 : w33.cell? ⟨gb352, 2, none⟩ = some (.int .i64 a0_2) := (blk_cell BK352.out 2).trans rfl; have hfz34_0 := blk_frozen BK352.out 0; have hfz34_1 := blk_frozen BK352.out 1; have hfz34_2 := blk_frozen BK352.out 2) | ((with_reducible refine gate_callee (f := 86) rfl ?_); refine goesL_ (some 4) rfl rfl Try.func86 (by kernel_rfl) rfl #[.agg #[.int .i64 a0_0, .bool false, .int .i64 a0_2]] rfl q101_ ?_; (with_reducible refine (spec_InsOk.calls k a0_0 false a0_2 true _ A2.out).mono ?_); rintro e w35 ⟨rfl, hb⟩; refine ⟨_, rfl, ?_⟩; have n0_ := Aside0.mk (blk_below (g := gb352) (o := .cells #[.int .i64 a0_0, .bool false, .int .i64 a0_2] 85 (0, 0)) q111_ hb); have n1_ := Aside0.mk (below_step q87_ hb); clear BK352; clear HB; have BK352 := n0_; have HB := n1_; clear n0_ n1_; (try clear hb); have hcz36_0 : w35.cell? ⟨gb352, 0, none⟩ = some (.int .i64 a0_0) := (blk_cell BK352.out 0).trans rfl; have hcz36_1 : w35.cell? ⟨gb352, 1, none⟩ = some (.bool false) := (blk_cell BK352.out 1).trans rfl; have hcz36_2 : w35.cell? ⟨gb352, 2, none⟩ = some (.int .i64 a0_2) := (blk_cell BK352.out 2).trans rfl; have hfz36_0 := blk_frozen BK352.out 0; have hfz36_1 := blk_frozen BK352.out 1; have hfz36_2 := blk_frozen BK352.out 2) | ((with_reducible refine gate_callee (f := 87) rfl ?_); refine goesL_ (some 15) rfl rfl Try.func87 (by kernel_rfl) rfl #[.int .i64 a0_0, .bool false] rfl q101_ ?_; (with_reducible refine (spec_l3Length.calls k a0_0 false t357 _ A12.out).mono ?_); rintro e w37 ⟨rfl, hb⟩; refine ⟨_, rfl, ?_⟩; have n0_ := Aside0.mk (blk_below (g := gb352) (o := .cells #[.int .i64 a0_0, .bool false, .int .i64 a0_2] 85 (0, 0)) q111_ hb); have n1_ := Aside0.mk (below_step q87_ hb); clear BK352; clear HB; have BK352 := n0_; have HB := n1_; clear n0_ n1_; (try clear hb); have hcz38_0 : w37.cell? ⟨gb352, 0, none⟩ = some (.int .i64 a0_0) := (blk_cell BK352.out 0).trans rfl; have hcz38_1 : w37.cell? ⟨gb352, 1, none⟩ = some (.bool false) := (blk_cell BK352.out 1).trans rfl; have hcz38_2 : w37.cell? ⟨gb352, 2, none⟩ = some (.int .i64 a0_2) := (blk_cell BK352.out 2).trans rfl; have hfz38_0 := blk_frozen BK352.out 0; have hfz38_1 := blk_frozen BK352.out 1; have hfz38_2 := blk_frozen BK352.out 2) | ((with_reducible refine gate_dst (N := 43) rfl ?_); refine Kd.R_lit (Kd.int .u8) _ 5 ?hg (N := 43) ?hd (xs := ([(a0_0) % 256] : List Int)) (inner := [.int .u8 ((a0_0) % 256)]) (ok := fun _ => True) (okp := fun _ => True) ?hr ?hp (fun _ hk => hk) trivial (Below.refl _ _) (Nat.le_refl _) (by simp) ?_; (case hd => rfl); (case hg => rfl); (case hr => exact q175_); (case hp => exact (Reps.one (show Kd.M (Kd.int .u8) _ _ _ ((a0_0) % 256) [.int .u8 ((a0_0) % 256)] from rfl) (Reps.none _ _))); intro v365 w39 ho40 hb hg_ hnew_; clear hg_ hnew_; (first | rw [← Ny364.out] at ho40 | (simp only [Int.reduceToNat] at ho40; rw [← Ny364.out] at ho40)); have n0_ := Aside0.mk (Kd.R_lower ho40 (below_size q87_)); have n1_ := Aside0.mk (blk_below (g := gb352) (o := .cells #[.int .i64 a0_0, .bool false, .int .i64 a0_2] 85 (0, 0)) q111_ hb); have n2_ := Aside0.mk (below_step q87_ hb); clear BK352; clear HB; have HO366 := n0_; have BK352 := n1_; have HB := n2_; clear n0_ n1_ n2_; clear hb ho40; have hcv41 := own_string (P := Try.prog) Try.underlying25 Try.underlying5 Try.underlying9 (Kd.own_of_R HO366.out); have hcvq41 := fun m_ : Nat => own_string (P := Try.prog) Try.underlying25 Try.underlying5 Try.underlying9 (Kd.own_of_R (Kd.R_drewN HO366.out m_))))
     go_ret
     exact ⟨q103_, q87_⟩
 ·replace c3 := Bool.eq_false_iff.mpr c3
  subst c3
  replace H : (some (⟨#[]⟩ : ByteArray)) = some r := by rw [if_neg (show ¬ (false = true) by decide)] at H; exact H
  obtain rfl := Option.some.inj H
  go_enter Try.func79, Try.ntmps79
  go_wp2_with (first | ((with_reducible refine gate_dst (N := 1) rfl ?_); refine box_event ?hg (N := 1) ?hd (cs := #[.int .i64 a0_0, .bool a0_1, .int .i64 a0_2]) (t := 85) ?hr ?_; (case hd => rfl); (case hg => rfl); (case hr => exact q175_); intro gb352 hg w42 hbox hb; have n0_ := Aside0.mk (below_step q102_ hb); have n1_ := Aside0.mk (hbox); have n2_ := Aside0.mk ((q80_ : w.heap.size ≤ gb352)); have n3_ := Aside0.mk ((q80_ : w.heap.size ≤ gb352)); clear HB; have HB := n0_; have BK352 := n1_; have GW352 := n2_; have GE352 := n3_; clear n0_ n1_ n2_ n3_; clear hb hbox hg; have hcz43_0 : w42.cell? ⟨gb352, 0, none⟩ = some (.int .i64 a0_0) := (blk_cell BK352.out 0).trans rfl; have hcz43_1 : w42.cell? ⟨gb352, 1, none⟩ = some (.bool a0_1) := (blk_cell BK352.out 1).trans rfl; have hcz43_2 : w42.cell? ⟨gb352, 2, none⟩ = some (.int .i64 a0_2) := (blk_cell BK352.out 2).trans rfl; have hfz43_0 := blk_frozen BK352.out 0; have hfz43_1 := blk_frozen BK352.out 1; have hfz43_2 := blk_frozen BK352.out 2) | ((with_reducible refine gate_callee (f := 86) rfl ?_); refine goesL_ (some 4) rfl rfl Try.func86 (by kernel_rfl) rfl #[.agg #[.int .i64 a0_0, .bool a0_1, .int .i64 a0_2]] rfl q101_ ?_; (with_reducible refine (spec_InsOk.calls k a0_0 a0_1 a0_2 false _ A2.out).mono ?_); rintro e w44 ⟨rfl, hb⟩; refine ⟨_, rfl, ?_⟩; have n0_ := Aside0.mk (blk_below (g := gb352) (o := .cells #[.int .i64 a0_0, .bool a0_1, .int .i64 a0_2] 85 (0, 0)) q111_ hb); have n1_ := Aside0.mk (below_step q87_ hb); clear BK352; clear HB; have BK352 := n0_; have HB := n1_; clear n0_ n1_; (try clear hb)))
  go_ret
  exact ⟨q103_, q87_⟩
def spec_l1Rd_ins.j0 : Nat → List Int → Int → Int → Bool → Int → Option (Int × Bool × Int × Int)
 | 0, _, _, _, _, _ => none
 | k + 1, x1000, x1001, x373000, x373001, x373002 => (spec_l1Rd_once.f x1000 x1001 40).bind fun bt382 => (if bt382.1 = true then ((spec_l1Rd_off.f k x1000 bt382.2 0 255).bind fun bt384 => (some (x373000, x373001, bt384.1, bt384.2))) else (some (x373000, x373001, x373002, bt382.2)))
def spec_l1Rd_ins.f (k : Nat) (s0_0 : List Int) (s0_1 : Int) : Option (Int × Bool × Int × Int) := (spec_l1Rd_below.f s0_0 s0_1 256).bind fun bt368 => ((spec_l1Rd_once.f s0_0 bt368.2 4).bind fun bt370 => ((spec_l3Template.f k bt368.1 bt370.1).bind fun t373 => ((spec_l3Hole.f k t373).bind fun bt374 => (if bt374.2.toList = ([110, 49, 54] : List UInt8) then ((spec_l1Rd_below.f s0_0 bt370.2 65536).bind fun bt376 => (spec_l1Rd_ins.j0 k s0_0 bt376.2 bt368.1 bt370.1 bt376.1)) else (if bt374.2.toList = ([110, 56] : List UInt8) then ((spec_l1Rd_byte.f s0_0 bt370.2).bind fun bt378 => (spec_l1Rd_ins.j0 k s0_0 bt378.2 bt368.1 bt370.1 bt378.1)) else (if bt374.2.toList = ([101, 56] : List UInt8) then ((spec_l1Rd_byte.f s0_0 bt370.2).bind fun bt380 => (spec_l1Rd_ins.j0 k s0_0 bt380.2 bt368.1 bt370.1 bt380.1)) else (spec_l1Rd_ins.j0 k s0_0 bt370.2 bt368.1 bt370.1 0)))))))
theorem spec_l1Rd_ins.mono_l : ∀ k, (∀ y0 y1 y2 y3 y4, LeO (spec_l1Rd_ins.j0 k y0 y1 y2 y3 y4) (spec_l1Rd_ins.j0 (k + 1) y0 y1 y2 y3 y4))
 | 0 => fun _ _ _ _ _ r h => by simp [spec_l1Rd_ins.j0] at h
 | k + 1 => by
  have ih0 := spec_l1Rd_ins.mono_l k
  ·intro y0 y1 y2 y3 y4
   unfold spec_l1Rd_ins.j0
   repeat' first
   | (with_reducible first | exact ih0 _ _ _ _ _ | exact spec_l1Rd_off.mono _ _ _ _ _ | exact spec_l3Hole.mono _ _ | exact spec_l3Template.mono _ _ _ | exact LeO.refl _ | exact LeO.none _ | refine LeO.ite ?_ ?_ | refine LeO.bind ?_ (fun _ => ?_))
   | exact ih0 _ _ _ _ _
   | exact spec_l1Rd_off.mono _ _ _ _ _
   | exact spec_l3Hole.mono _ _
   | exact spec_l3Template.mono _ _ _
   | exact LeO.none _
   | refine LeO.ite ?_ ?_
   | refine LeO.bind ?_ (fun _ => ?_)
theorem spec_l1Rd_ins.mono : ∀ a0 a1 k, LeO (spec_l1Rd_ins.f k a0 a1) (spec_l1Rd_ins.f (k + 1) a0 a1) := by
 intro a0 a1 k
 have ih0 := spec_l1Rd_ins.mono_l k
 unfold spec_l1Rd_ins.f
 repeat' first
   | (with_reducible first | exact ih0 _ _ _ _ _ | exact spec_l1Rd_off.mono _ _ _ _ _ | exact spec_l3Hole.mono _ _ | exact spec_l3Template.mono _ _ _ | exact LeO.refl _ | exact LeO.none _ | refine LeO.ite ?_ ?_ | refine LeO.bind ?_ (fun _ => ?_))
   | exact ih0 _ _ _ _ _
   | exact spec_l1Rd_off.mono _ _ _ _ _
   | exact spec_l3Hole.mono _ _
   | exact spec_l3Template.mono _ _ _
   | exact LeO.none _
   | refine LeO.ite ?_ ?_
   | refine LeO.bind ?_ (fun _ => ?_)
theorem spec_l1Rd_ins.calls (k : Nat) (g : Nat) (s0_0 : List Int) (s0_1 : Int) (r1 : Int) (r2 : Bool) (r3 : Int) (r4 : Int) (w0 w : World) (hI : IsS78 w0 w g s0_0 s0_1) (hB : Below w0.heap.size w0 w) (h : spec_l1Rd_ins.f k s0_0 s0_1 = some (r1, r2, r3, r4)) :
  Calls Try.prog 88 #[.pointer (some ⟨g, 0, none⟩)] w fun e w' => e = .returned (.agg #[.int .i64 r1, .bool r2, .int .i64 r3]) ∧ IsS78 w0 w' g s0_0 r4 ∧ Below w0.heap.size w0 w' ∧ KeepBut w w' g none := by
 have hu85 := Try.underlying85
 have HI0 := Aside0.mk hI
 have HK := Aside0.mk (KeepBut.refl w g none)
 have HL := Aside0.mk hB.size
 clear hI
 have HW0 := Aside0.mk hB.size
 have HB := Aside0.mk hB
 clear hB
 have H : ((spec_l1Rd_below.f s0_0 s0_1 256).bind fun bt368 => ((spec_l1Rd_once.f s0_0 bt368.2 4).bind fun bt370 => ((spec_l3Template.f k bt368.1 bt370.1).bind fun t373 => ((spec_l3Hole.f k t373).bind fun bt374 => (if bt374.2.toList = ([110, 49, 54] : List UInt8) then ((spec_l1Rd_below.f s0_0 bt370.2 65536).bind fun bt376 => (spec_l1Rd_ins.j0 k s0_0 bt376.2 bt368.1 bt370.1 bt376.1)) else (if bt374.2.toList = ([110, 56] : List UInt8) then ((spec_l1Rd_byte.f s0_0 bt370.2).bind fun bt378 => (spec_l1Rd_ins.j0 k s0_0 bt378.2 bt368.1 bt370.1 bt378.1)) else (if bt374.2.toList = ([101, 56] : List UInt8) then ((spec_l1Rd_byte.f s0_0 bt370.2).bind fun bt380 => (spec_l1Rd_ins.j0 k s0_0 bt380.2 bt368.1 bt370.1 bt380.1)) else (spec_l1Rd_ins.j0 k s0_0 bt370.2 bt368.1 bt370.1 0)))))))) = some (r1, r2, r3, r4) := h
 clear h
 replace H := Option.bind_eq_some_iff.mp H
 obtain ⟨⟨t368, t369⟩, A20, H⟩ := H
 replace H : ((spec_l1Rd_once.f s0_0 t369 4).bind fun bt370 => ((spec_l3Template.f k t368 bt370.1).bind fun t373 => ((spec_l3Hole.f k t373).bind fun bt374 => (if bt374.2.toList = ([110, 49, 54] : List UInt8) then ((spec_l1Rd_below.f s0_0 bt370.2 65536).bind fun bt376 => (spec_l1Rd_ins.j0 k s0_0 bt376.2 t368 bt370.1 bt376.1)) else (if bt374.2.toList = ([110, 56] : List UInt8) then ((spec_l1Rd_byte.f s0_0 bt370.2).bind fun bt378 => (spec_l1Rd_ins.j0 k s0_0 bt378.2 t368 bt370.1 bt378.1)) else (if bt374.2.toList = ([101, 56] : List UInt8) then ((spec_l1Rd_byte.f s0_0 bt370.2).bind fun bt380 => (spec_l1Rd_ins.j0 k s0_0 bt380.2 t368 bt370.1 bt380.1)) else (spec_l1Rd_ins.j0 k s0_0 bt370.2 t368 bt370.1 0))))))) = some (r1, r2, r3, r4) := H
 have A2 := Aside0.mk A20
 clear A20
 replace H := Option.bind_eq_some_iff.mp H
 obtain ⟨⟨t370, t371⟩, A30, H⟩ := H
 replace H : ((spec_l3Template.f k t368 t370).bind fun t373 => ((spec_l3Hole.f k t373).bind fun bt374 => (if bt374.2.toList = ([110, 49, 54] : List UInt8) then ((spec_l1Rd_below.f s0_0 t371 65536).bind fun bt376 => (spec_l1Rd_ins.j0 k s0_0 bt376.2 t368 t370 bt376.1)) else (if bt374.2.toList = ([110, 56] : List UInt8) then ((spec_l1Rd_byte.f s0_0 t371).bind fun bt378 => (spec_l1Rd_ins.j0 k s0_0 bt378.2 t368 t370 bt378.1)) else (if bt374.2.toList = ([101, 56] : List UInt8) then ((spec_l1Rd_byte.f s0_0 t371).bind fun bt380 => (spec_l1Rd_ins.j0 k s0_0 bt380.2 t368 t370 bt380.1)) else (spec_l1Rd_ins.j0 k s0_0 t371 t368 t370 0)))))) = some (r1, r2, r3, r4) := H
 have A3 := Aside0.mk A30
 clear A30
 replace H := Option.bind_eq_some_iff.mp H
 obtain ⟨t373, A40, H⟩ := H
 have A4 := Aside0.mk A40
 clear A40
 replace H := Option.bind_eq_some_iff.mp H
 obtain ⟨⟨t374, t375⟩, A50, H⟩ := H
 replace H : (if t375.toList = ([110, 49, 54] : List UInt8) then ((spec_l1Rd_below.f s0_0 t371 65536).bind fun bt376 => (spec_l1Rd_ins.j0 k s0_0 bt376.2 t368 t370 bt376.1)) else (if t375.toList = ([110, 56] : List UInt8) then ((spec_l1Rd_byte.f s0_0 t371).bind fun bt378 => (spec_l1Rd_ins.j0 k s0_0 bt378.2 t368 t370 bt378.1)) else (if t375.toList = ([101, 56] : List UInt8) then ((spec_l1Rd_byte.f s0_0 t371).bind fun bt380 => (spec_l1Rd_ins.j0 k s0_0 bt380.2 t368 t370 bt380.1)) else (spec_l1Rd_ins.j0 k s0_0 t371 t368 t370 0)))) = some (r1, r2, r3, r4) := H
 have A5 := Aside0.mk A50
 clear A50
 have HC6 := Aside0.mk H
 clear H
 go_enter Try.func88, Try.ntmps88
 go_upto_block 0 with (first | ((with_reducible refine gate_dst (N := 2) rfl ?_); refine box_event ?hg (N := 2) ?hd (cs := #[.int .i64 0, .bool false, .int .i64 0]) (t := 85) ?hr ?_; (case hd => rfl); (case hg => rfl); (case hr => exact q175_); intro gb367 hg w7 hbox hb; have n0_ := Aside0.mk (IsS78.below q95_ hb); have n1_ := Aside0.mk (KeepBut.trans q96_ (KeepBut.of_below hb g none) (.inl rfl)); have n2_ := Aside0.mk (below_step q78_ hb); have n3_ := Aside0.mk (hbox); have n4_ := Aside0.mk ((q54_ : w.heap.size ≤ gb367)); have n5_ := Aside0.mk ((Nat.le_trans HW0.out (q54_ : w.heap.size ≤ gb367) : w0.heap.size ≤ gb367)); have n6_ := Aside0.mk ((q44_ : g ≠ gb367)); have n7_ := Aside0.mk ((q45_ : gb367 ≠ g)); clear HI0; clear HK; clear HB; have HI0 := n0_; have HK := n1_; have HB := n2_; have BK367 := n3_; have GW367 := n4_; have GE367 := n5_; have NB0_367 := n6_; have NB367_0 := n7_; clear n0_ n1_ n2_ n3_ n4_ n5_ n6_ n7_; clear hb hbox hg) | ((with_reducible refine gate_callee (f := 37) rfl ?_); refine goesL_ (some 7) rfl rfl Try.func37 (by kernel_rfl) rfl #[.pointer (some ⟨g, 0, none⟩), .int .i64 256] rfl q101_ ?_; (with_reducible refine (spec_l1Rd_below.calls g s0_0 s0_1 256 t368 t369 w0 _ ?side1 ?side2 A2.out).mono ?_); (case side1 => exact q169_); (case side2 => exact q166_); rintro e w8 ⟨rfl, hi, hb, hk⟩; refine ⟨_, rfl, ?_⟩; have n0_ := Aside0.mk (KeepBut.blk hk (g' := gb367) (o := .cells #[.int .i64 0, .bool false, .int .i64 0] 85 (0, 0)) q112_ NB367_0.out (by simp)); have n1_ := Aside0.mk (KeepBut.trans q75_ hk (.inl rfl)); have n2_ := Aside0.mk (hb); have n3_ := Aside0.mk (hi); clear BK367; clear HK; clear HB; clear HI0; have BK367 := n0_; have HK := n1_; have HB := n2_; have HI0 := n3_; clear n0_ n1_ n2_ n3_; (try clear hb); (try clear hk); (try clear hi)) | ((with_reducible refine gate_callee (f := 56) rfl ?_); refine goesL_ (some 9) rfl rfl Try.func56 (by kernel_rfl) rfl #[.pointer (some ⟨g, 0, none⟩), .int .i64 4] rfl q101_ ?_; (with_reducible refine (spec_l1Rd_once.calls g s0_0 t369 4 t370 t371 w0 _ ?side1 ?side2 A3.out).mono ?_); (case side1 => exact q169_); (case side2 => exact q166_); rintro e w9 ⟨rfl, hi, hb, hk⟩; refine ⟨_, rfl, ?_⟩; have n0_ := Aside0.mk (KeepBut.blk hk (g' := gb367) (o := .cells #[.int .i64 0, .bool false, .int .i64 0] 85 (0, 0)) q112_ NB367_0.out (by simp)); have n1_ := Aside0.mk (KeepBut.trans q75_ hk (.inl rfl)); have n2_ := Aside0.mk (hb); have n3_ := Aside0.mk (hi); clear BK367; clear HK; clear HB; clear HI0; have BK367 := n0_; have HK := n1_; have HB := n2_; have HI0 := n3_; clear n0_ n1_ n2_ n3_; (try clear hb); (try clear hk); (try clear hi)) | ((with_reducible refine gate_dst (N := 3) rfl ?_); refine box_event ?hg (N := 3) ?hd (cs := #[.int .i64 0, .bool false, .int .i64 0]) (t := 85) ?hr ?_; (case hd => rfl); (case hg => rfl); (case hr => exact q175_); intro gb372 hg w10 hbox hb; have n0_ := Aside0.mk (IsS78.below (by repeat (first | (with_reducible first | exact HI0.out | apply IsS78.alloc | apply IsS78.drewN | apply IsS78.drew | apply IsS78.set_1 | refine IsS78.far ?_ NB0_367.out _) | exact HI0.out)) hb); have n1_ := Aside0.mk (blk_below (g := gb367) (o := .cells #[.int .i64 0, .bool false, .int .i64 0] 85 (0, 0)) q112_ hb); have n2_ := Aside0.mk (KeepBut.trans q75_ (KeepBut.of_below hb g none) (.inl rfl)); have n3_ := Aside0.mk (below_step (by repeat (first | (with_reducible first | exact HB.out | apply below_alloc | apply pw_below_drewN | apply below_drew1 | refine below_set ?_ (IsS78.ge HI0.out) | refine below_set ?_ GE367.out) | exact HB.out)) hb); have n4_ := Aside0.mk (hbox); have n5_ := Aside0.mk ((q34_ : w.heap.size ≤ gb372)); have n6_ := Aside0.mk ((Nat.le_trans HW0.out (q34_ : w.heap.size ≤ gb372) : w0.heap.size ≤ gb372)); have n7_ := Aside0.mk ((by rw [hg]; exact Nat.ne_of_lt (blk_lt (g := gb367) (o := .cells #[.int .i64 0, .bool false, .int .i64 0] 85 (0, 0)) q112_) : gb367 ≠ gb372)); have n8_ := Aside0.mk ((by rw [hg]; exact Nat.ne_of_gt (blk_lt (g := gb367) (o := .cells #[.int .i64 0, .bool false, .int .i64 0] 85 (0, 0)) q112_) : gb372 ≠ gb367)); have n9_ := Aside0.mk ((by rw [hg]; exact Nat.ne_of_lt (IsS78.lt (show IsS78 w0 _ g s0_0 t371 from by repeat (first | (with_reducible first | exact HI0.out | apply IsS78.alloc | apply IsS78.drewN | apply IsS78.drew | apply IsS78.set_1 | refine IsS78.far ?_ NB0_367.out _) | exact HI0.out))) : g ≠ gb372)); have n10_ := Aside0.mk ((by rw [hg]; exact Nat.ne_of_gt (IsS78.lt (show IsS78 w0 _ g s0_0 t371 from by repeat (first | (with_reducible first | exact HI0.out | apply IsS78.alloc | apply IsS78.drewN | apply IsS78.drew | apply IsS78.set_1 | refine IsS78.far ?_ NB0_367.out _) | exact HI0.out))) : gb372 ≠ g)); clear HI0; clear BK367; clear HK; clear HB; have HI0 := n0_; have BK367 := n1_; have HK := n2_; have HB := n3_; have BK372 := n4_; have GW372 := n5_; have GE372 := n6_; have NB367_372 := n7_; have NB372_367 := n8_; have NB0_372 := n9_; have NB372_0 := n10_; clear n0_ n1_ n2_ n3_ n4_ n5_ n6_ n7_ n8_ n9_ n10_; clear hb hbox hg; have hnb11 := NB372_367.out; have hnc11 := NB367_372.out; have hnb12 := NB372_0.out; have hnc12 := NB0_372.out; have hcz13_0 : w10.cell? ⟨gb372, 0, none⟩ = some (.int .i64 0) := (blk_cell BK372.out 0).trans rfl; have hcz13_1 : w10.cell? ⟨gb372, 1, none⟩ = some (.bool false) := (blk_cell BK372.out 1).trans rfl; have hcz13_2 : w10.cell? ⟨gb372, 2, none⟩ = some (.int .i64 0) := (blk_cell BK372.out 2).trans rfl; have hfz13_0 := blk_frozen BK372.out 0; have hfz13_1 := blk_frozen BK372.out 1; have hfz13_2 := blk_frozen BK372.out 2) | ((with_reducible refine gate_callee (f := 94) rfl ?_); refine goesL_ (some 16) rfl rfl Try.func94 (by kernel_rfl) rfl #[.int .i64 t368, .bool t370] rfl q101_ ?_; (with_reducible refine (spec_l3Template.calls k t368 t370 t373 _ A4.out).mono ?_); rintro e w14 ⟨rfl, hb⟩; refine ⟨_, rfl, ?_⟩; have n0_ := Aside0.mk (IsS78.below (show IsS78 w0 (((w10.setCell ⟨gb372, 0, none⟩ (.int .i64 t368)).setCell ⟨gb372, 1, none⟩ (.bool t370)).setCell ⟨gb372, 2, none⟩ (.int .i64 0)) g s0_0 t371 from by repeat (first | (with_reducible first | exact HI0.out | apply IsS78.alloc | apply IsS78.drewN | apply IsS78.drew | apply IsS78.set_1 | refine IsS78.far ?_ NB0_367.out _ | refine IsS78.far ?_ NB0_372.out _) | exact HI0.out)) hb); have n1_ := Aside0.mk (blk_below (g := gb367) (o := .cells #[.int .i64 0, .bool false, .int .i64 0] 85 (0, 0)) (by (with_reducible repeat (first | refine blk_drewN ?_ _ | refine blk_drew ?_ | refine blk_alloc ?_ _)); refine blk_far ?_ NB367_372.out _; (with_reducible repeat (first | refine blk_drewN ?_ _ | refine blk_drew ?_ | refine blk_alloc ?_ _)); refine blk_far ?_ NB367_372.out _; (with_reducible repeat (first | refine blk_drewN ?_ _ | refine blk_drew ?_ | refine blk_alloc ?_ _)); refine blk_far ?_ NB367_372.out _; (with_reducible repeat (first | refine blk_drewN ?_ _ | refine blk_drew ?_ | refine blk_alloc ?_ _)); exact BK367.out) hb); have n2_ := Aside0.mk (blk_below (g := gb372) (o := .cells #[.int .i64 t368, .bool t370, .int .i64 0] 85 (0, 0)) (by (with_reducible repeat (first | refine blk_drewN ?_ _ | refine blk_drew ?_ | refine blk_alloc ?_ _)); refine blk_put (cs := #[.int .i64 t368, .bool t370, .int .i64 0]) ?_ 2 _ rfl; (with_reducible repeat (first | refine blk_drewN ?_ _ | refine blk_drew ?_ | refine blk_alloc ?_ _)); refine blk_put (cs := #[.int .i64 t368, .bool false, .int .i64 0]) ?_ 1 _ rfl; (with_reducible repeat (first | refine blk_drewN ?_ _ | refine blk_drew ?_ | refine blk_alloc ?_ _)); refine blk_put (cs := #[.int .i64 0, .bool false, .int .i64 0]) ?_ 0 _ rfl; (with_reducible repeat (first | refine blk_drewN ?_ _ | refine blk_drew ?_ | refine blk_alloc ?_ _)); exact BK372.out) hb); have n3_ := Aside0.mk (KeepBut.trans q51_ (KeepBut.of_below hb g none) (.inl rfl)); have n4_ := Aside0.mk (below_step q39_ hb); clear HI0; clear BK367; clear BK372; clear HK; clear HB; have HI0 := n0_; have BK367 := n1_; have BK372 := n2_; have HK := n3_; have HB := n4_; clear n0_ n1_ n2_ n3_ n4_; (try clear hb)) | ((with_reducible refine gate_callee (f := 93) rfl ?_); refine goesL_ (some 17) rfl rfl Try.func93 (by kernel_rfl) rfl #[.string t373] rfl q101_ ?_; (with_reducible refine (spec_l3Hole.calls k t373 t374 t375 _ A5.out).mono ?_); rintro e w15 ⟨rfl, hb⟩; refine ⟨_, rfl, ?_⟩; have n0_ := Aside0.mk (IsS78.below q46_ hb); have n1_ := Aside0.mk (blk_below (g := gb367) (o := .cells #[.int .i64 0, .bool false, .int .i64 0] 85 (0, 0)) q112_ hb); have n2_ := Aside0.mk (blk_below (g := gb372) (o := .cells #[.int .i64 t368, .bool t370, .int .i64 0] 85 (0, 0)) q113_ hb); have n3_ := Aside0.mk (KeepBut.trans q51_ (KeepBut.of_below hb g none) (.inl rfl)); have n4_ := Aside0.mk (below_step q39_ hb); clear HI0; clear BK367; clear BK372; clear HK; clear HB; have HI0 := n0_; have BK367 := n1_; have BK372 := n2_; have HK := n3_; have HB := n4_; clear n0_ n1_ n2_ n3_ n4_; (try clear hb)))
 (try simp only [Act.put, List.setIfInBounds_toArray, List.set_cons_zero, List.set_cons_succ])
 go_cut [] (fun wc => ∃ (kq : Nat) (x1001_5 : Int) (x373002_5 : Int), Aside0 (spec_l1Rd_ins.j0 kq s0_0 x1001_5 t368 t370 x373002_5 = some (r1, r2, r3, r4)) ∧ Aside0 (kq ≤ k) ∧ Aside0 (wc.heap[gb367]? = some (.cells #[.int .i64 0, .bool false, .int .i64 0] 85 (0, 0))) ∧ Aside0 (wc.heap[gb372]? = some (.cells #[.int .i64 t368, .bool t370, .int .i64 x373002_5] 85 (0, 0))) ∧ Aside0 (IsS78 w0 wc g s0_0 x1001_5) ∧ Aside0 (KeepBut w wc g none) ∧ Aside0 (Below w0.heap.size w0 wc))
 case first =>
  have H := HC6.out
  clear HC6
  by_cases c16 : t375.toList = ([110, 49, 54] : List UInt8)
  ·rw [if_pos c16] at H
   have c16b0 : (t375.toList == ([110, 49, 54] : List UInt8)) = true := beq_iff_eq.mpr c16
   have c16b1 : (t375.toList != ([110, 49, 54] : List UInt8)) = false := bne_eq_false_iff_eq.mpr c16
   clear c16
   (first | rw [c16b0] | (simp only [i64_w, i32_w]; rw [c16b0]) | skip)
   replace H := Option.bind_eq_some_iff.mp H
   obtain ⟨⟨t376, t377⟩, A170, H⟩ := H
   replace H : (spec_l1Rd_ins.j0 k s0_0 t377 t368 t370 t376) = some (r1, r2, r3, r4) := H
   have A17 := Aside0.mk A170
   clear A170
   have H' := Aside0.mk H
   clear H
   go_wp2_with (first | ((with_reducible refine gate_callee (f := 37) rfl ?_); refine goesL_ (some 24) rfl rfl Try.func37 (by kernel_rfl) rfl #[.pointer (some ⟨g, 0, none⟩), .int .i64 65536] rfl q101_ ?_; (with_reducible refine (spec_l1Rd_below.calls g s0_0 t371 65536 t376 t377 w0 _ ?side1 ?side2 A17.out).mono ?_); (case side1 => exact q162_); (case side2 => exact q158_); rintro e w18 ⟨rfl, hi, hb, hk⟩; refine ⟨_, rfl, ?_⟩; have n0_ := Aside0.mk (KeepBut.blk hk (g' := gb367) (o := .cells #[.int .i64 0, .bool false, .int .i64 0] 85 (0, 0)) q112_ NB367_0.out (by simp)); have n1_ := Aside0.mk (KeepBut.blk hk (g' := gb372) (o := .cells #[.int .i64 t368, .bool t370, .int .i64 0] 85 (0, 0)) q113_ NB372_0.out (by simp)); have n2_ := Aside0.mk (KeepBut.trans q51_ hk (.inl rfl)); have n3_ := Aside0.mk (hb); have n4_ := Aside0.mk (hi); clear BK367; clear BK372; clear HK; clear HB; clear HI0; have BK367 := n0_; have BK372 := n1_; have HK := n2_; have HB := n3_; have HI0 := n4_; clear n0_ n1_ n2_ n3_ n4_; (try clear hb); (try clear hk); (try clear hi); have hnb19 := NB372_367.out; have hnc19 := NB367_372.out; have hnb20 := NB372_0.out; have hnc20 := NB0_372.out; have hcz21_0 : w18.cell? ⟨gb372, 0, none⟩ = some (.int .i64 t368) := (blk_cell BK372.out 0).trans rfl; have hcz21_1 : w18.cell? ⟨gb372, 1, none⟩ = some (.bool t370) := (blk_cell BK372.out 1).trans rfl; have hcz21_2 : w18.cell? ⟨gb372, 2, none⟩ = some (.int .i64 0) := (blk_cell BK372.out 2).trans rfl; have hfz21_0 := blk_frozen BK372.out 0; have hfz21_1 := blk_frozen BK372.out 1; have hfz21_2 := blk_frozen BK372.out 2))
   go_meet
   case rel => exact ⟨_, (t377), (t376), H', ⟨q153_⟩, ⟨q33_⟩, ⟨q30_⟩, ⟨q46_⟩, ⟨q51_⟩, ⟨q39_⟩⟩
  ·rw [if_neg c16] at H
   have c16b0 : (t375.toList == ([110, 49, 54] : List UInt8)) = false := beq_eq_false_iff_ne.mpr c16
   have c16b1 : (t375.toList != ([110, 49, 54] : List UInt8)) = true := bne_iff_ne.mpr c16
   (first | rw [c16b0] | (simp only [i64_w, i32_w]; rw [c16b0]) | skip)
   by_cases c22 : t375.toList = ([110, 56] : List UInt8)
   ·rw [if_pos c22] at H
    have c22b0 : (t375.toList == ([110, 56] : List UInt8)) = true := beq_iff_eq.mpr c22
    have c22b1 : (t375.toList != ([110, 56] : List UInt8)) = false := bne_eq_false_iff_eq.mpr c22
    clear c22
    replace H := Option.bind_eq_some_iff.mp H
    obtain ⟨⟨t378, t379⟩, A230, H⟩ := H
    replace H : (spec_l1Rd_ins.j0 k s0_0 t379 t368 t370 t378) = some (r1, r2, r3, r4) := H
    have A23 := Aside0.mk A230
    clear A230
    have H' := Aside0.mk H
    clear H
    go_wp2_with (first | ((with_reducible refine gate_callee (f := 58) rfl ?_); refine goesL_ (some 30) rfl rfl Try.func58 (by kernel_rfl) rfl #[.pointer (some ⟨g, 0, none⟩)] rfl q101_ ?_; (with_reducible refine (spec_l1Rd_byte.calls g s0_0 t371 t378 t379 w0 _ ?side1 ?side2 A23.out).mono ?_); (case side1 => exact q162_); (case side2 => exact q158_); rintro e w24 ⟨rfl, hi, hb, hk⟩; refine ⟨_, rfl, ?_⟩; have n0_ := Aside0.mk (KeepBut.blk hk (g' := gb367) (o := .cells #[.int .i64 0, .bool false, .int .i64 0] 85 (0, 0)) q112_ NB367_0.out (by simp)); have n1_ := Aside0.mk (KeepBut.blk hk (g' := gb372) (o := .cells #[.int .i64 t368, .bool t370, .int .i64 0] 85 (0, 0)) q113_ NB372_0.out (by simp)); have n2_ := Aside0.mk (KeepBut.trans q51_ hk (.inl rfl)); have n3_ := Aside0.mk (hb); have n4_ := Aside0.mk (hi); clear BK367; clear BK372; clear HK; clear HB; clear HI0; have BK367 := n0_; have BK372 := n1_; have HK := n2_; have HB := n3_; have HI0 := n4_; clear n0_ n1_ n2_ n3_ n4_; (try clear hb); (try clear hk); (try clear hi); have hnb25 := NB372_367.out; have hnc25 := NB367_372.out; have hnb26 := NB372_0.out; have hnc26 := NB0_372.out; have hcz27_0 : w24.cell? ⟨gb372, 0, none⟩ = some (.int .i64 t368) := (blk_cell BK372.out 0).trans rfl; have hcz27_1 : w24.cell? ⟨gb372, 1, none⟩ = some (.bool t370) := (blk_cell BK372.out 1).trans rfl; have hcz27_2 : w24.cell? ⟨gb372, 2, none⟩ = some (.int .i64 0) := (blk_cell BK372.out 2).trans rfl; have hfz27_0 := blk_frozen BK372.out 0; have hfz27_1 := blk_frozen BK372.out 1; have hfz27_2 := blk_frozen BK372.out 2))
    go_meet
    case rel => exact ⟨_, (t379), (t378), H', ⟨q153_⟩, ⟨q33_⟩, ⟨q30_⟩, ⟨q46_⟩, ⟨q51_⟩, ⟨q39_⟩⟩
   ·rw [if_neg c22] at H
    have c22b0 : (t375.toList == ([110, 56] : List UInt8)) = false := beq_eq_false_iff_ne.mpr c22
    have c22b1 : (t375.toList != ([110, 56] : List UInt8)) = true := bne_iff_ne.mpr c22
    by_cases c28 : t375.toList = ([101, 56] : List UInt8)
    ·rw [if_pos c28] at H
     have c28b0 : (t375.toList == ([101, 56] : List UInt8)) = true := beq_iff_eq.mpr c28
     have c28b1 : (t375.toList != ([101, 56] : List UInt8)) = false := bne_eq_false_iff_eq.mpr c28
     clear c28
     replace H := Option.bind_eq_some_iff.mp H
     obtain ⟨⟨t380, t381⟩, A290, H⟩ := H
     replace H : (spec_l1Rd_ins.j0 k s0_0 t381 t368 t370 t380) = some (r1, r2, r3, r4) := H
     have A29 := Aside0.mk A290
     clear A290
     have H' := Aside0.mk H
     clear H
     go_wp2_with (first | ((with_reducible refine gate_callee (f := 58) rfl ?_); refine goesL_ (some 30) rfl rfl Try.func58 (by kernel_rfl) rfl #[.pointer (some ⟨g, 0, none⟩)] rfl q101_ ?_; (with_reducible refine (spec_l1Rd_byte.calls g s0_0 t371 t380 t381 w0 _ ?side1 ?side2 A29.out).mono ?_); (case side1 => exact q162_); (case side2 => exact q158_); rintro e w30 ⟨rfl, hi, hb, hk⟩; refine ⟨_, rfl, ?_⟩; have n0_ := Aside0.mk (KeepBut.blk hk (g' := gb367) (o := .cells #[.int .i64 0, .bool false, .int .i64 0] 85 (0, 0)) q112_ NB367_0.out (by simp)); have n1_ := Aside0.mk (KeepBut.blk hk (g' := gb372) (o := .cells #[.int .i64 t368, .bool t370, .int .i64 0] 85 (0, 0)) q113_ NB372_0.out (by simp)); have n2_ := Aside0.mk (KeepBut.trans q51_ hk (.inl rfl)); have n3_ := Aside0.mk (hb); have n4_ := Aside0.mk (hi); clear BK367; clear BK372; clear HK; clear HB; clear HI0; have BK367 := n0_; have BK372 := n1_; have HK := n2_; have HB := n3_; have HI0 := n4_; clear n0_ n1_ n2_ n3_ n4_; (try clear hb); (try clear hk); (try clear hi); have hnb31 := NB372_367.out; have hnc31 := NB367_372.out; have hnb32 := NB372_0.out; have hnc32 := NB0_372.out; have hcz33_0 : w30.cell? ⟨gb372, 0, none⟩ = some (.int .i64 t368) := (blk_cell BK372.out 0).trans rfl; have hcz33_1 : w30.cell? ⟨gb372, 1, none⟩ = some (.bool t370) := (blk_cell BK372.out 1).trans rfl; have hcz33_2 : w30.cell? ⟨gb372, 2, none⟩ = some (.int .i64 0) := (blk_cell BK372.out 2).trans rfl; have hfz33_0 := blk_frozen BK372.out 0; have hfz33_1 := blk_frozen BK372.out 1; have hfz33_2 := blk_frozen BK372.out 2))
     go_meet
     case rel => exact ⟨_, (t381), (t380), H', ⟨q153_⟩, ⟨q33_⟩, ⟨q30_⟩, ⟨q46_⟩, ⟨q51_⟩, ⟨q39_⟩⟩
    ·rw [if_neg c28] at H
     have c28b0 : (t375.toList == ([101, 56] : List UInt8)) = false := beq_eq_false_iff_ne.mpr c28
     have c28b1 : (t375.toList != ([101, 56] : List UInt8)) = true := bne_iff_ne.mpr c28
     have H' := Aside0.mk H
     clear H
     go_wp2
     go_meet
     case rel => exact ⟨_, (t371), (0), H', ⟨q153_⟩, ⟨q112_⟩, ⟨q113_⟩, ⟨q46_⟩, ⟨q51_⟩, ⟨q39_⟩⟩
 case rest =>
  clear HC6
  try clear c1
  try clear c2
  try clear p2
  try clear c3
  try clear c5
  try clear c8
  try clear c9
  try clear c11
  try clear c12
  try clear c16
  try clear c16b0
  try clear c16b1
  try clear c19
  try clear c20
  try clear c22
  try clear c22b0
  try clear c22b1
  try clear c25
  try clear c26
  try clear c28
  try clear c28b0
  try clear c28b1
  try clear c31
  try clear c32
  try clear hcz13_0 hcz13_1 hcz13_2
  try clear hcz21_0 hcz21_1 hcz21_2
  try clear hcz27_0 hcz27_1 hcz27_2
  try clear hcz33_0 hcz33_1 hcz33_2
  try clear hfz13_0 hfz13_1 hfz13_2
  try clear hfz21_0 hfz21_1 hfz21_2
  try clear hfz27_0 hfz27_1 hfz27_2
  try clear hfz33_0 hfz33_1 hfz33_2
  obtain ⟨kq, x1001_5, x373002_5, HA, HJ5, BK367, BK372, HI0, HK, HB⟩ := hcut
  cases kq with
  | zero => exact absurd HA.out (by simp [spec_l1Rd_ins.j0])
  | succ kj5 =>
   have H := HA.out
   clear HA
   simp only [spec_l1Rd_ins.j0] at H
   replace H := Option.bind_eq_some_iff.mp H
   obtain ⟨⟨t382, t383⟩, A340, H⟩ := H
   replace H : (if t382 = true then ((spec_l1Rd_off.f kj5 s0_0 t383 0 255).bind fun bt384 => (some (t368, t370, bt384.1, bt384.2))) else (some (t368, t370, x373002_5, t383))) = some (r1, r2, r3, r4) := H
   have A34 := Aside0.mk A340
   clear A340
   by_cases c35 : t382 = true
   ·subst c35
    replace H : ((spec_l1Rd_off.f kj5 s0_0 t383 0 255).bind fun bt384 => (some (t368, t370, bt384.1, bt384.2))) = some (r1, r2, r3, r4) := by rw [if_pos rfl] at H; exact H
    replace H := Option.bind_eq_some_iff.mp H
    obtain ⟨⟨t384, t385⟩, A360, H⟩ := H
    replace H : (some (t368, t370, t384, t385)) = some (r1, r2, r3, r4) := H
    have A36 := Aside0.mk A360
    clear A360
    simp only [Option.some.injEq, Prod.mk.injEq] at H
    obtain ⟨rfl, rfl, rfl, rfl⟩ := H
    go_wp2_with (first | ((with_reducible refine gate_callee (f := 56) rfl ?_); refine goesL_ (some 33) rfl rfl Try.func56 (by kernel_rfl) rfl #[.pointer (some ⟨g, 0, none⟩), .int .i64 40] rfl q101_ ?_; (with_reducible refine (spec_l1Rd_once.calls g s0_0 x1001_5 40 true t383 w0 _ ?side1 ?side2 A34.out).mono ?_); (case side1 => exact q162_); (case side2 => exact q158_); rintro e w37 ⟨rfl, hi, hb, hk⟩; refine ⟨_, rfl, ?_⟩; have n0_ := Aside0.mk (KeepBut.blk hk (g' := gb367) (o := .cells #[.int .i64 0, .bool false, .int .i64 0] 85 (0, 0)) q112_ NB367_0.out (by simp)); have n1_ := Aside0.mk (KeepBut.blk hk (g' := gb372) (o := .cells #[.int .i64 t368, .bool t370, .int .i64 x373002_5] 85 (0, 0)) q113_ NB372_0.out (by simp)); have n2_ := Aside0.mk (KeepBut.trans q51_ hk (.inl rfl)); have n3_ := Aside0.mk (hb); have n4_ := Aside0.mk (hi); clear BK367; clear BK372; clear HK; clear HB; clear HI0; have BK367 := n0_; have BK372 := n1_; have HK := n2_; have HB := n3_; have HI0 := n4_; clear n0_ n1_ n2_ n3_ n4_; (try clear hb); (try clear hk); (try clear hi)) | ((with_reducible refine gate_callee (f := 57) rfl ?_); refine goesL_ (some 35) rfl rfl Try.func57 (by kernel_rfl) rfl #[.pointer (some ⟨g, 0, none⟩), .int .i64 0, .int .i64 255] rfl q101_ ?_; (with_reducible refine (spec_l1Rd_off.calls kj5 g s0_0 t383 0 255 t384 t385 w0 _ ?side1 ?side2 A36.out).mono ?_); (case side1 => exact q162_); (case side2 => exact q158_); rintro e w38 ⟨rfl, hi, hb, hk⟩; refine ⟨_, rfl, ?_⟩; have n0_ := Aside0.mk (KeepBut.blk hk (g' := gb367) (o := .cells #[.int .i64 0, .bool false, .int .i64 0] 85 (0, 0)) q112_ NB367_0.out (by simp)); have n1_ := Aside0.mk (KeepBut.blk hk (g' := gb372) (o := .cells #[.int .i64 t368, .bool t370, .int .i64 x373002_5] 85 (0, 0)) q113_ NB372_0.out (by simp)); have n2_ := Aside0.mk (KeepBut.trans q51_ hk (.inl rfl)); have n3_ := Aside0.mk (hb); have n4_ := Aside0.mk (hi); clear BK367; clear BK372; clear HK; clear HB; clear HI0; have BK367 := n0_; have BK372 := n1_; have HK := n2_; have HB := n3_; have HI0 := n4_; clear n0_ n1_ n2_ n3_ n4_; (try clear hb); (try clear hk); (try clear hi); have hnb39 := NB372_367.out; have hnc39 := NB367_372.out; have hnb40 := NB372_0.out; have hnc40 := NB0_372.out; have hcz41_0 : w38.cell? ⟨gb372, 0, none⟩ = some (.int .i64 t368) := (blk_cell BK372.out 0).trans rfl; have hcz41_1 : w38.cell? ⟨gb372, 1, none⟩ = some (.bool t370) := (blk_cell BK372.out 1).trans rfl; have hcz41_2 : w38.cell? ⟨gb372, 2, none⟩ = some (.int .i64 x373002_5) := (blk_cell BK372.out 2).trans rfl; have hfz41_0 := blk_frozen BK372.out 0; have hfz41_1 := blk_frozen BK372.out 1; have hfz41_2 := blk_frozen BK372.out 2; have hnb42 := NB367_0.out; have hnc42 := NB0_367.out; have hcz43_0 : w38.cell? ⟨gb367, 0, none⟩ = some (.int .i64 0) := (blk_cell BK367.out 0).trans rfl; have hcz43_1 : w38.cell? ⟨gb367, 1, none⟩ = some (.bool false) := (blk_cell BK367.out 1).trans rfl; have hcz43_2 : w38.cell? ⟨gb367, 2, none⟩ = some (.int .i64 0) := (blk_cell BK367.out 2).trans rfl; have hfz43_0 := blk_frozen BK367.out 0; have hfz43_1 := blk_frozen BK367.out 1; have hfz43_2 := blk_frozen BK367.out 2))
    refine bodyPost_ret (results_cell_row rfl _ _ gb367 85 #[.int .i64 t368, .bool t370, .int .i64 t384] (0, 0) _ rfl (by (with_reducible repeat (first | refine blk_drewN ?_ _ | refine blk_drew ?_ | refine blk_alloc ?_ _)); refine blk_put (cs := #[.int .i64 t368, .bool t370, .int .i64 0]) ?_ 2 _ rfl; (with_reducible repeat (first | refine blk_drewN ?_ _ | refine blk_drew ?_ | refine blk_alloc ?_ _)); refine blk_put (cs := #[.int .i64 t368, .bool false, .int .i64 0]) ?_ 1 _ rfl; (with_reducible repeat (first | refine blk_drewN ?_ _ | refine blk_drew ?_ | refine blk_alloc ?_ _)); refine blk_put (cs := #[.int .i64 0, .bool false, .int .i64 0]) ?_ 0 _ rfl; (with_reducible repeat (first | refine blk_drewN ?_ _ | refine blk_drew ?_ | refine blk_alloc ?_ _)); refine blk_far ?_ NB367_372.out _; (with_reducible repeat (first | refine blk_drewN ?_ _ | refine blk_drew ?_ | refine blk_alloc ?_ _)); exact BK367.out) Try.underlying85 rfl (by kernel_rfl)) rfl ?_
    exact ⟨q103_, q46_, q39_, q51_⟩
   ·replace c35 := Bool.eq_false_iff.mpr c35
    subst c35
    replace H : (some (t368, t370, x373002_5, t383)) = some (r1, r2, r3, r4) := by rw [if_neg (show ¬ (false = true) by decide)] at H; exact H
    simp only [Option.some.injEq, Prod.mk.injEq] at H
    obtain ⟨rfl, rfl, rfl, rfl⟩ := H
    go_wp2_with (first | ((with_reducible refine gate_callee (f := 56) rfl ?_); refine goesL_ (some 33) rfl rfl Try.func56 (by kernel_rfl) rfl #[.pointer (some ⟨g, 0, none⟩), .int .i64 40] rfl q101_ ?_; (with_reducible refine (spec_l1Rd_once.calls g s0_0 x1001_5 40 false t383 w0 _ ?side1 ?side2 A34.out).mono ?_); (case side1 => exact q162_); (case side2 => exact q158_); rintro e w44 ⟨rfl, hi, hb, hk⟩; refine ⟨_, rfl, ?_⟩; have n0_ := Aside0.mk (KeepBut.blk hk (g' := gb367) (o := .cells #[.int .i64 0, .bool false, .int .i64 0] 85 (0, 0)) q112_ NB367_0.out (by simp)); have n1_ := Aside0.mk (KeepBut.blk hk (g' := gb372) (o := .cells #[.int .i64 t368, .bool t370, .int .i64 x373002_5] 85 (0, 0)) q113_ NB372_0.out (by simp)); have n2_ := Aside0.mk (KeepBut.trans q51_ hk (.inl rfl)); have n3_ := Aside0.mk (hb); have n4_ := Aside0.mk (hi); clear BK367; clear BK372; clear HK; clear HB; clear HI0; have BK367 := n0_; have BK372 := n1_; have HK := n2_; have HB := n3_; have HI0 := n4_; clear n0_ n1_ n2_ n3_ n4_; (try clear hb); (try clear hk); (try clear hi); have hnb45 := NB372_367.out; have hnc45 := NB367_372.out; have hnb46 := NB372_0.out; have hnc46 := NB0_372.out; have hcz47_0 : w44.cell? ⟨gb372, 0, none⟩ = some (.int .i64 t368) := (blk_cell BK372.out 0).trans rfl; have hcz47_1 : w44.cell? ⟨gb372, 1, none⟩ = some (.bool t370) := (blk_cell BK372.out 1).trans rfl; have hcz47_2 : w44.cell? ⟨gb372, 2, none⟩ = some (.int .i64 x373002_5) := (blk_cell BK372.out 2).trans rfl; have hfz47_0 := blk_frozen BK372.out 0; have hfz47_1 := blk_frozen BK372.out 1; have hfz47_2 := blk_frozen BK372.out 2; have hnb48 := NB367_0.out; have hnc48 := NB0_367.out; have hcz49_0 : w44.cell? ⟨gb367, 0, none⟩ = some (.int .i64 0) := (blk_cell BK367.out 0).trans rfl; have hcz49_1 : w44.cell? ⟨gb367, 1, none⟩ = some (.bool false) := (blk_cell BK367.out 1).trans rfl; have hcz49_2 : w44.cell? ⟨gb367, 2, none⟩ = some (.int .i64 0) := (blk_cell BK367.out 2).trans rfl; have hfz49_0 := blk_frozen BK367.out 0; have hfz49_1 := blk_frozen BK367.out 1; have hfz49_2 := blk_frozen BK367.out 2))
    refine bodyPost_ret (results_cell_row rfl _ _ gb367 85 #[.int .i64 t368, .bool t370, .int .i64 x373002_5] (0, 0) _ rfl (by (with_reducible repeat (first | refine blk_drewN ?_ _ | refine blk_drew ?_ | refine blk_alloc ?_ _)); refine blk_put (cs := #[.int .i64 t368, .bool t370, .int .i64 0]) ?_ 2 _ rfl; (with_reducible repeat (first | refine blk_drewN ?_ _ | refine blk_drew ?_ | refine blk_alloc ?_ _)); refine blk_put (cs := #[.int .i64 t368, .bool false, .int .i64 0]) ?_ 1 _ rfl; (with_reducible repeat (first | refine blk_drewN ?_ _ | refine blk_drew ?_ | refine blk_alloc ?_ _)); refine blk_put (cs := #[.int .i64 0, .bool false, .int .i64 0]) ?_ 0 _ rfl; (with_reducible repeat (first | refine blk_drewN ?_ _ | refine blk_drew ?_ | refine blk_alloc ?_ _)); exact BK367.out) Try.underlying85 rfl (by kernel_rfl)) rfl ?_
    exact ⟨q103_, q46_, q39_, q51_⟩
end Go.Proofs.Ytcohcndliaaacaa.QFnCartWrites
