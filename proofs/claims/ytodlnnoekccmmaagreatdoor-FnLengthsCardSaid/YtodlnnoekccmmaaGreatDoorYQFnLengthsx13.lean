/- The machine's side of a law, written by a program of this session for this claim. -/
import Derived.Test.YtodlnnoekccmmaaGreatDoorYQq
import Derived.Test.YtodlnnoekccmmaaGreatDoorYQFnLengthsx0
import Derived.Test.YtodlnnoekccmmaaGreatDoorYQFnLengthsx8
import Derived.Test.YtodlnnoekccmmaaGreatDoorYQFnLengthsx9
import Derived.Test.YtodlnnoekccmmaaGreatDoorYQFnLengthsx12
namespace Go.Proofs.YtodlnnoekccmmaaGreatDoor.QFnLengths
open Go.Proofs.YtodlnnoekccmmaaGreatDoor.Qq
open Go.RowKit Go.Proofs.YtodlnnoekccmmaaGreatDoor.LibX Go.Proofs.YtodlnnoekccmmaaGreatDoor.LibE Go.Proofs.YtodlnnoekccmmaaGreatDoorW.PrintWords Go.Proofs.YtodlnnoekccmmaaGreatDoorW.PrintLast Go.Proofs.YtodlnnoekccmmaaGreatDoorW.PrintMore
attribute [local go_sem] max2_int min2_int max_two min_two max_three min_three max_four min_four   -- for this text's walks alone
set_option maxHeartbeats 8000000
set_option maxRecDepth 100000
set_option linter.unusedVariables false
set_option linter.unusedSimpArgs false
def spec_l3Length.f (k : Nat) (a0 : Int) (a1 : Bool) : Option (Int) := (spec_l3Template.f k a0 a1).bind fun t452 => (if t452.toList = ([] : List UInt8) then (some 0) else (if a1 = true then (some 2) else ((spec_l3Hole.f k t452).bind fun bt453 => (if bt453.2.toList = ([] : List UInt8) then (some 1) else (if bt453.2.toList = ([110, 49, 54] : List UInt8) then (some 3) else (some 2))))))
theorem spec_l3Length.mono : ∀ a0 a1 k, LeO (spec_l3Length.f k a0 a1) (spec_l3Length.f (k + 1) a0 a1) := by
 intro a0 a1 k
 unfold spec_l3Length.f
 repeat' first
   | (with_reducible first | exact spec_l3Hole.mono _ _ | exact spec_l3Template.mono _ _ _ | exact LeO.refl _ | exact LeO.none _ | refine LeO.ite ?_ ?_ | refine LeO.bind ?_ (fun _ => ?_))
   | exact spec_l3Hole.mono _ _
   | exact spec_l3Template.mono _ _ _
   | exact LeO.none _
   | refine LeO.ite ?_ ?_
   | refine LeO.bind ?_ (fun _ => ?_)
theorem spec_l3Length.calls (k : Nat) (a0 : Int) (a1 : Bool) (r : Int) (w : World) (h : spec_l3Length.f k a0 a1 = some r) :
  Calls Tryz.prog 52 #[.int .i64 a0, .bool a1] w fun e w' => e = .returned (.int .i64 r) ∧ Below w.heap.size w w' := by
 have HB := Aside0.mk (Below.refl w.heap.size w)
 have H : ((spec_l3Template.f k a0 a1).bind fun t452 => (if t452.toList = ([] : List UInt8) then (some 0) else (if a1 = true then (some 2) else ((spec_l3Hole.f k t452).bind fun bt453 => (if bt453.2.toList = ([] : List UInt8) then (some 1) else (if bt453.2.toList = ([110, 49, 54] : List UInt8) then (some 3) else (some 2))))))) = some r := h
 clear h
 replace H := Option.bind_eq_some_iff.mp H
 obtain ⟨t452, A30, H⟩ := H
 have A3 := Aside0.mk A30
 clear A30
 by_cases c4 : t452.toList = ([] : List UInt8)
 ·rw [if_pos c4] at H
  have c4b0 : (t452.toList == ([] : List UInt8)) = true := beq_iff_eq.mpr c4
  have c4b1 : (t452.toList != ([] : List UInt8)) = false := bne_eq_false_iff_eq.mpr c4
  clear c4
  obtain rfl := Option.some.inj H
  go_enter Tryz.func52, Tryz.ntmps52
  go_wp2_with (first | ((with_reducible refine gate_callee (f := 60) rfl ?_); refine goesL_ (some 10) rfl rfl Tryz.func60 (by kernel_rfl) rfl #[.int .i64 a0, .bool a1] rfl q22_ ?_; (with_reducible refine (spec_l3Template.calls k a0 a1 t452 _ A3.out).mono ?_); rintro e w5 ⟨rfl, hb⟩; refine ⟨_, rfl, ?_⟩; replace HB := Aside0.mk (below_step q23_ hb); (try clear hb)))
  go_ret
  exact ⟨q25_, q23_⟩
 ·rw [if_neg c4] at H
  have c4b0 : (t452.toList == ([] : List UInt8)) = false := beq_eq_false_iff_ne.mpr c4
  have c4b1 : (t452.toList != ([] : List UInt8)) = true := bne_iff_ne.mpr c4
  by_cases c6 : a1 = true
  ·subst c6
   replace H : (some 2) = some r := by rw [if_pos rfl] at H; exact H
   obtain rfl := Option.some.inj H
   go_enter Tryz.func52, Tryz.ntmps52
   go_wp2_with (first | ((with_reducible refine gate_callee (f := 60) rfl ?_); refine goesL_ (some 10) rfl rfl Tryz.func60 (by kernel_rfl) rfl #[.int .i64 a0, .bool true] rfl q22_ ?_; (with_reducible refine (spec_l3Template.calls k a0 true t452 _ A3.out).mono ?_); rintro e w7 ⟨rfl, hb⟩; refine ⟨_, rfl, ?_⟩; replace HB := Aside0.mk (below_step q23_ hb); (try clear hb)))
   go_ret
   exact ⟨q25_, q23_⟩
  ·replace c6 := Bool.eq_false_iff.mpr c6
   subst c6
   replace H : ((spec_l3Hole.f k t452).bind fun bt453 => (if bt453.2.toList = ([] : List UInt8) then (some 1) else (if bt453.2.toList = ([110, 49, 54] : List UInt8) then (some 3) else (some 2)))) = some r := by rw [if_neg (show ¬ (false = true) by decide)] at H; exact H
   replace H := Option.bind_eq_some_iff.mp H
   obtain ⟨⟨t453, t454⟩, A80, H⟩ := H
   replace H : (if t454.toList = ([] : List UInt8) then (some 1) else (if t454.toList = ([110, 49, 54] : List UInt8) then (some 3) else (some 2))) = some r := H
   have A8 := Aside0.mk A80
   clear A80
   by_cases c9 : t454.toList = ([] : List UInt8)
   ·rw [if_pos c9] at H
    have c9b0 : (t454.toList == ([] : List UInt8)) = true := beq_iff_eq.mpr c9
    have c9b1 : (t454.toList != ([] : List UInt8)) = false := bne_eq_false_iff_eq.mpr c9
    clear c9
    obtain rfl := Option.some.inj H
    go_enter Tryz.func52, Tryz.ntmps52
    go_wp2_with (first | ((with_reducible refine gate_callee (f := 60) rfl ?_); refine goesL_ (some 10) rfl rfl Tryz.func60 (by kernel_rfl) rfl #[.int .i64 a0, .bool false] rfl q22_ ?_; (with_reducible refine (spec_l3Template.calls k a0 false t452 _ A3.out).mono ?_); rintro e w10 ⟨rfl, hb⟩; refine ⟨_, rfl, ?_⟩; replace HB := Aside0.mk (below_step q23_ hb); (try clear hb)) | ((with_reducible refine gate_callee (f := 59) rfl ?_); refine goesL_ (some 16) rfl rfl Tryz.func59 (by kernel_rfl) rfl #[.string t452] rfl q22_ ?_; (with_reducible refine (spec_l3Hole.calls k t452 t453 t454 _ A8.out).mono ?_); rintro e w11 ⟨rfl, hb⟩; refine ⟨_, rfl, ?_⟩; replace HB := Aside0.mk (below_step q23_ hb); (try clear hb)))
    go_ret
    exact ⟨q25_, q23_⟩
   ·rw [if_neg c9] at H
    have c9b0 : (t454.toList == ([] : List UInt8)) = false := beq_eq_false_iff_ne.mpr c9
    have c9b1 : (t454.toList != ([] : List UInt8)) = true := bne_iff_ne.mpr c9
    by_cases c12 : t454.toList = ([110, 49, 54] : List UInt8)
    ·rw [if_pos c12] at H
     have c12b0 : (t454.toList == ([110, 49, 54] : List UInt8)) = true := beq_iff_eq.mpr c12
     have c12b1 : (t454.toList != ([110, 49, 54] : List UInt8)) = false := bne_eq_false_iff_eq.mpr c12
     clear c12
     obtain rfl := Option.some.inj H
     go_enter Tryz.func52, Tryz.ntmps52
     go_wp2_with (first | ((with_reducible refine gate_callee (f := 60) rfl ?_); refine goesL_ (some 10) rfl rfl Tryz.func60 (by kernel_rfl) rfl #[.int .i64 a0, .bool false] rfl q22_ ?_; (with_reducible refine (spec_l3Template.calls k a0 false t452 _ A3.out).mono ?_); rintro e w13 ⟨rfl, hb⟩; refine ⟨_, rfl, ?_⟩; replace HB := Aside0.mk (below_step q23_ hb); (try clear hb)) | ((with_reducible refine gate_callee (f := 59) rfl ?_); refine goesL_ (some 16) rfl rfl Tryz.func59 (by kernel_rfl) rfl #[.string t452] rfl q22_ ?_; (with_reducible refine (spec_l3Hole.calls k t452 t453 t454 _ A8.out).mono ?_); rintro e w14 ⟨rfl, hb⟩; refine ⟨_, rfl, ?_⟩; replace HB := Aside0.mk (below_step q23_ hb); (try clear hb)))
     go_ret
     exact ⟨q25_, q23_⟩
    ·rw [if_neg c12] at H
     have c12b0 : (t454.toList == ([110, 49, 54] : List UInt8)) = false := beq_eq_false_iff_ne.mpr c12
     have c12b1 : (t454.toList != ([110, 49, 54] : List UInt8)) = true := bne_iff_ne.mpr c12
     obtain rfl := Option.some.inj H
     go_enter Tryz.func52, Tryz.ntmps52
     go_wp2_with (first | ((with_reducible refine gate_callee (f := 60) rfl ?_); refine goesL_ (some 10) rfl rfl Tryz.func60 (by kernel_rfl) rfl #[.int .i64 a0, .bool false] rfl q22_ ?_; (with_reducible refine (spec_l3Template.calls k a0 false t452 _ A3.out).mono ?_); rintro e w15 ⟨rfl, hb⟩; refine ⟨_, rfl, ?_⟩; replace HB := Aside0.mk (below_step q23_ hb); (try clear hb)) | ((with_reducible refine gate_callee (f := 59) rfl ?_); refine goesL_ (some 16) rfl rfl Tryz.func59 (by kernel_rfl) rfl #[.string t452] rfl q22_ ?_; (with_reducible refine (spec_l3Hole.calls k t452 t453 t454 _ A8.out).mono ?_); rintro e w16 ⟨rfl, hb⟩; refine ⟨_, rfl, ?_⟩; replace HB := Aside0.mk (below_step q23_ hb); (try clear hb)))
     go_ret
     exact ⟨q25_, q23_⟩
def spec_LengthOf.f (k : Nat) (a0 : Int) (a1 : Bool) : Option (Int) := (spec_l1In.f a0 0 255).bind fun t455 => (if t455 = true then ((spec_l3Length.f k a0 a1).bind fun t456 => (some t456)) else (some 0))
theorem spec_LengthOf.mono : ∀ a0 a1 k, LeO (spec_LengthOf.f k a0 a1) (spec_LengthOf.f (k + 1) a0 a1) := by
 intro a0 a1 k
 unfold spec_LengthOf.f
 repeat' first
   | (with_reducible first | exact spec_l3Length.mono _ _ _ | exact LeO.refl _ | exact LeO.none _ | refine LeO.ite ?_ ?_ | refine LeO.bind ?_ (fun _ => ?_))
   | exact spec_l3Length.mono _ _ _
   | exact LeO.none _
   | refine LeO.ite ?_ ?_
   | refine LeO.bind ?_ (fun _ => ?_)
theorem spec_LengthOf.calls (k : Nat) (a0 : Int) (a1 : Bool) (r : Int) (w : World) (h : spec_LengthOf.f k a0 a1 = some r) :
  Calls Tryz.prog 15 #[.int .i64 a0, .bool a1] w fun e w' => e = .returned (.int .i64 r) ∧ Below w.heap.size w w' := by
 have HB := Aside0.mk (Below.refl w.heap.size w)
 have H : ((spec_l1In.f a0 0 255).bind fun t455 => (if t455 = true then ((spec_l3Length.f k a0 a1).bind fun t456 => (some t456)) else (some 0))) = some r := h
 clear h
 replace H := Option.bind_eq_some_iff.mp H
 obtain ⟨t455, A30, H⟩ := H
 have A3 := Aside0.mk A30
 clear A30
 by_cases c4 : t455 = true
 ·subst c4
  replace H : ((spec_l3Length.f k a0 a1).bind fun t456 => (some t456)) = some r := by rw [if_pos rfl] at H; exact H
  replace H := Option.bind_eq_some_iff.mp H
  obtain ⟨t456, A50, H⟩ := H
  have A5 := Aside0.mk A50
  clear A50
  obtain rfl := Option.some.inj H
  go_enter Tryz.func15, Tryz.ntmps15
  go_wp2_with (first | ((with_reducible refine gate_callee (f := 51) rfl ?_); refine goesL_ (some 6) rfl rfl Tryz.func51 (by kernel_rfl) rfl #[.int .i64 a0, .int .i64 0, .int .i64 255] rfl q22_ ?_; (with_reducible refine (spec_l1In.calls a0 0 255 true _ A3.out).mono ?_); rintro e w' ⟨rfl, ⟨nd, rfl⟩⟩; refine ⟨_, rfl, ?_⟩) | ((with_reducible refine gate_callee (f := 52) rfl ?_); refine goesL_ (some 10) rfl rfl Tryz.func52 (by kernel_rfl) rfl #[.int .i64 a0, .bool a1] rfl q22_ ?_; (with_reducible refine (spec_l3Length.calls k a0 a1 t456 _ A5.out).mono ?_); rintro e w6 ⟨rfl, hb⟩; refine ⟨_, rfl, ?_⟩; replace HB := Aside0.mk (below_step q23_ hb); (try clear hb)))
  go_ret
  exact ⟨q25_, q23_⟩
 ·replace c4 := Bool.eq_false_iff.mpr c4
  subst c4
  replace H : (some 0) = some r := by rw [if_neg (show ¬ (false = true) by decide)] at H; exact H
  obtain rfl := Option.some.inj H
  go_enter Tryz.func15, Tryz.ntmps15
  go_wp2_with (first | ((with_reducible refine gate_callee (f := 51) rfl ?_); refine goesL_ (some 6) rfl rfl Tryz.func51 (by kernel_rfl) rfl #[.int .i64 a0, .int .i64 0, .int .i64 255] rfl q22_ ?_; (with_reducible refine (spec_l1In.calls a0 0 255 false _ A3.out).mono ?_); rintro e w' ⟨rfl, ⟨nd, rfl⟩⟩; refine ⟨_, rfl, ?_⟩))
  go_ret
  exact ⟨q25_, q23_⟩
def spec_l3One.f (a0 : Bool) : Option (Int) := if a0 = true then (some 1) else (some 0)
theorem spec_l3One.calls (a0 : Bool) (r : Int) (w : World) (h : spec_l3One.f a0 = some r) :
  Calls Tryz.prog 53 #[.bool a0] w fun e w' => e = .returned (.int .i64 r) ∧ Drawn0 w w' := by
 have H : (if a0 = true then (some 1) else (some 0)) = some r := h
 clear h
 by_cases c2 : a0 = true
 ·subst c2
  replace H : (some 1) = some r := by rw [if_pos rfl] at H; exact H
  obtain rfl := Option.some.inj H
  go_enter Tryz.func53, Tryz.ntmps53
  go_wp2
  go_ret
  exact ⟨q29_, q42_⟩
 ·replace c2 := Bool.eq_false_iff.mpr c2
  subst c2
  replace H : (some 0) = some r := by rw [if_neg (show ¬ (false = true) by decide)] at H; exact H
  obtain rfl := Option.some.inj H
  go_enter Tryz.func53, Tryz.ntmps53
  go_wp2
  go_ret
  exact ⟨q29_, q42_⟩
def spec_l3Cycles.f (a0 : Int) (a1 : Int) (a2 : Bool) : Option (Int) := (spec_l3One.f a2).bind fun t457 => (if a1 = 0 then (if a0 < 4 then (some (wrap64 (2 + (wrap64 (3 * t457))))) else ((some (([3, 4, 3, 3] : List Int) : List Int)).bind fun y458 => (if 0 ≤ (wrap64 (a0 - 4)) then (if (wrap64 (a0 - 4)) < (y458.length : Int) then (some (rd y458 (wrap64 (a0 - 4)))) else (none)) else (none)))) else (if a1 = 1 then (if (Int.tmod a0 2) = 0 then (some 3) else ((some (([4, 4, 1, 2] : List Int) : List Int)).bind fun y462 => (if 0 ≤ (wrap64 (Int.tdiv a0 2)) then (if (wrap64 (Int.tdiv a0 2)) < (y462.length : Int) then (some (rd y462 (wrap64 (Int.tdiv a0 2)))) else (none)) else (none)))) else (if a1 = 2 then (if a0 < 4 then (some (wrap64 (3 + t457))) else ((some (([2, 4, 2, 4] : List Int) : List Int)).bind fun y466 => (if 0 ≤ (wrap64 (a0 - 4)) then (if (wrap64 (a0 - 4)) < (y466.length : Int) then (some (rd y466 (wrap64 (a0 - 4)))) else (none)) else (none)))) else (if a1 = 3 then (if a0 = 0 then (some 4) else (some 1)) else (if a1 = 4 then (some (wrap64 (3 + (wrap64 (3 * t457))))) else (if a1 = 5 then (if a0 = 1 then (some 6) else (some 4)) else (if a1 = 6 then (some 2) else (some 4))))))))
theorem spec_l3Cycles.calls (a0 : Int) (a1 : Int) (a2 : Bool) (r : Int) (w : World) (h : spec_l3Cycles.f a0 a1 a2 = some r) :
  Calls Tryz.prog 54 #[.int .i64 a0, .int .i64 a1, .bool a2] w fun e w' => e = .returned (.int .i64 r) ∧ Below w.heap.size w w' := by
 have HB := Aside0.mk (Below.refl w.heap.size w)
 have H : ((spec_l3One.f a2).bind fun t457 => (if a1 = 0 then (if a0 < 4 then (some (wrap64 (2 + (wrap64 (3 * t457))))) else ((some (([3, 4, 3, 3] : List Int) : List Int)).bind fun y458 => (if 0 ≤ (wrap64 (a0 - 4)) then (if (wrap64 (a0 - 4)) < (y458.length : Int) then (some (rd y458 (wrap64 (a0 - 4)))) else (none)) else (none)))) else (if a1 = 1 then (if (Int.tmod a0 2) = 0 then (some 3) else ((some (([4, 4, 1, 2] : List Int) : List Int)).bind fun y462 => (if 0 ≤ (wrap64 (Int.tdiv a0 2)) then (if (wrap64 (Int.tdiv a0 2)) < (y462.length : Int) then (some (rd y462 (wrap64 (Int.tdiv a0 2)))) else (none)) else (none)))) else (if a1 = 2 then (if a0 < 4 then (some (wrap64 (3 + t457))) else ((some (([2, 4, 2, 4] : List Int) : List Int)).bind fun y466 => (if 0 ≤ (wrap64 (a0 - 4)) then (if (wrap64 (a0 - 4)) < (y466.length : Int) then (some (rd y466 (wrap64 (a0 - 4)))) else (none)) else (none)))) else (if a1 = 3 then (if a0 = 0 then (some 4) else (some 1)) else (if a1 = 4 then (some (wrap64 (3 + (wrap64 (3 * t457))))) else (if a1 = 5 then (if a0 = 1 then (some 6) else (some 4)) else (if a1 = 6 then (some 2) else (some 4))))))))) = some r := h
 clear h
 replace H := Option.bind_eq_some_iff.mp H
 obtain ⟨t457, A40, H⟩ := H
 have A4 := Aside0.mk A40
 clear A40
 by_cases c5 : a1 = 0
 ·rw [if_pos c5] at H
  have c5b0 : (a1 == 0) = true := beq_iff_eq.mpr c5
  have c5b1 : (a1 != 0) = false := bne_eq_false_iff_eq.mpr c5
  clear c5
  by_cases c6 : a0 < 4
  ·rw [if_pos c6] at H
   have c6b0 : decide (a0 < 4) = true := decide_eq_true c6
   clear c6
   obtain rfl := Option.some.inj H
   go_enter Tryz.func54, Tryz.ntmps54
   go_wp2_with (first | ((with_reducible refine gate_callee (f := 53) rfl ?_); refine goesL_ (some 9) rfl rfl Tryz.func53 (by kernel_rfl) rfl #[.bool a2] rfl q22_ ?_; (with_reducible refine (spec_l3One.calls a2 t457 _ A4.out).mono ?_); rintro e w' ⟨rfl, ⟨nd, rfl⟩⟩; refine ⟨_, rfl, ?_⟩))
   go_ret
   exact ⟨q25_, q23_⟩
  ·rw [if_neg c6] at H
   have c6b0 : decide (a0 < 4) = false := decide_eq_false c6
   clear c6
   obtain ⟨y458, hy458⟩ : ∃ y_ : List Int, y_ = (([3, 4, 3, 3] : List Int)) := ⟨_, rfl⟩
   replace H : (if 0 ≤ (wrap64 (a0 - 4)) then (if (wrap64 (a0 - 4)) < (y458.length : Int) then (some (rd y458 (wrap64 (a0 - 4)))) else (none)) else (none)) = some r := by first | (rw [hy458]; with_reducible exact H) | (have H2_ := (Option.bind_some _ _).symm.trans H; rw [hy458]; with_reducible exact H2_) | (have H2_ := (Option.bind_some _ _).symm.trans H; with_reducible exact H2_) | with_reducible exact H | (rw [hy458]; exact H) | exact H
   have Ny458 := Aside0.mk hy458
   clear hy458
   obtain ⟨ji7, hji7⟩ : ∃ j_ : Int, (wrap64 (a0 - 4)) = j_ := ⟨_, rfl⟩
   replace H : (if 0 ≤ (ji7) then (if (ji7) < (y458.length : Int) then (some (rd y458 (ji7))) else (none)) else (none)) = some r := by first | (rw [hji7] at H; exact H) | (simp only [hji7] at H ⊢; exact H)
   (try rw [hji7] at A4)
   have hji7w : (IntKind.i64.wrap (a0 - 4)) = ji7 := (i64_w _).trans hji7
   by_cases c8 : 0 ≤ (ji7)
   ·rw [if_pos c8] at H
    have c8b0 : decide (0 ≤ (ji7)) = true := decide_eq_true c8
    clear c8
    by_cases c9 : (ji7) < (y458.length : Int)
    ·rw [if_pos c9] at H
     have c9b0 : decide ((ji7) < (y458.length : Int)) = true := decide_eq_true c9
     clear c9
     obtain rfl := Option.some.inj H
     go_enter Tryz.func54, Tryz.ntmps54
     go_wp2_with (first | ((with_reducible refine gate_callee (f := 53) rfl ?_); refine goesL_ (some 9) rfl rfl Tryz.func53 (by kernel_rfl) rfl #[.bool a2] rfl q22_ ?_; (with_reducible refine (spec_l3One.calls a2 t457 _ A4.out).mono ?_); rintro e w' ⟨rfl, ⟨nd, rfl⟩⟩; refine ⟨_, rfl, ?_⟩) | ((with_reducible refine gate_dst (N := 18) rfl ?_); refine Kd.R_lit (Kd.int .i64) _ 2 ?hg (N := 18) ?hd (xs := ([3, 4, 3, 3] : List Int)) (inner := [.int .i64 3, .int .i64 4, .int .i64 3, .int .i64 3]) (ok := fun _ => True) (okp := fun _ => True) ?hr ?hp (fun _ hk => hk) trivial (Below.refl _ _) (Nat.le_refl _) (by simp) ?_; (case hd => rfl); (case hg => rfl); (case hr => exact q73_); (case hp => exact q65_); intro v459 w10 ho11 hb hg_ hnew_; clear hg_ hnew_; (first | rw [← Ny458.out] at ho11 | (simp only [Int.reduceToNat] at ho11; rw [← Ny458.out] at ho11)); have n0_ := Aside0.mk (Kd.R_lower ho11 (below_size q23_)); have n1_ := Aside0.mk (below_step q23_ hb); clear HB; have HO460 := n0_; have HB := n1_; clear n0_ n1_; clear hb ho11; obtain ⟨Ao12, co12, eo12⟩ := Kd.R_slice HO460.out; subst eo12; have p461 : 0 ≤ ((ji7) : Int) := of_decide_eq_true q44_; have q461 : (ji7) < (y458.length : Int) := of_decide_eq_true q44_; obtain ⟨ad461, e461, hx461_0⟩ := Kd.at_int (Kd.R_reads' HO460.out).2.2 (ji7) p461 q461; cases e461; replace p461 := eq_true p461; replace q461 := eq_true q461))
     go_ret
     exact ⟨by first | rfl | (simp [errW_none, errW_some] <;> rfl) | (simp only [← hji7]; first | rfl | (simp [errW_none, errW_some] <;> rfl)) | (simp [*, errW_none, errW_some] <;> rfl) | (exfalso; simp_all; done), q23_⟩
    ·rw [if_neg c9] at H
     exact absurd H (by simp)
   ·rw [if_neg c8] at H
    exact absurd H (by simp)
 ·rw [if_neg c5] at H
  have c5b0 : (a1 == 0) = false := beq_eq_false_iff_ne.mpr c5
  have c5b1 : (a1 != 0) = true := bne_iff_ne.mpr c5
  by_cases c13 : a1 = 1
  ·rw [if_pos c13] at H
   have c13b0 : (a1 == 1) = true := beq_iff_eq.mpr c13
   have c13b1 : (a1 != 1) = false := bne_eq_false_iff_eq.mpr c13
   clear c13
   by_cases c14 : (Int.tmod a0 2) = 0
   ·rw [if_pos c14] at H
    have c14b0 : ((Int.tmod a0 2) == 0) = true := beq_iff_eq.mpr c14
    have c14b1 : ((Int.tmod a0 2) != 0) = false := bne_eq_false_iff_eq.mpr c14
    clear c14
    obtain rfl := Option.some.inj H
    go_enter Tryz.func54, Tryz.ntmps54
    go_wp2_with (first | ((with_reducible refine gate_callee (f := 53) rfl ?_); refine goesL_ (some 9) rfl rfl Tryz.func53 (by kernel_rfl) rfl #[.bool a2] rfl q22_ ?_; (with_reducible refine (spec_l3One.calls a2 t457 _ A4.out).mono ?_); rintro e w' ⟨rfl, ⟨nd, rfl⟩⟩; refine ⟨_, rfl, ?_⟩))
    go_ret
    exact ⟨q25_, q23_⟩
   ·rw [if_neg c14] at H
    have c14b0 : ((Int.tmod a0 2) == 0) = false := beq_eq_false_iff_ne.mpr c14
    have c14b1 : ((Int.tmod a0 2) != 0) = true := bne_iff_ne.mpr c14
    obtain ⟨y462, hy462⟩ : ∃ y_ : List Int, y_ = (([4, 4, 1, 2] : List Int)) := ⟨_, rfl⟩
    replace H : (if 0 ≤ (wrap64 (Int.tdiv a0 2)) then (if (wrap64 (Int.tdiv a0 2)) < (y462.length : Int) then (some (rd y462 (wrap64 (Int.tdiv a0 2)))) else (none)) else (none)) = some r := by first | (rw [hy462]; with_reducible exact H) | (have H2_ := (Option.bind_some _ _).symm.trans H; rw [hy462]; with_reducible exact H2_) | (have H2_ := (Option.bind_some _ _).symm.trans H; with_reducible exact H2_) | with_reducible exact H | (rw [hy462]; exact H) | exact H
    have Ny462 := Aside0.mk hy462
    clear hy462
    obtain ⟨ji15, hji15⟩ : ∃ j_ : Int, (wrap64 (Int.tdiv a0 2)) = j_ := ⟨_, rfl⟩
    replace H : (if 0 ≤ (ji15) then (if (ji15) < (y462.length : Int) then (some (rd y462 (ji15))) else (none)) else (none)) = some r := by first | (rw [hji15] at H; exact H) | (simp only [hji15] at H ⊢; exact H)
    (try rw [hji15] at A4)
    have hji15w : (IntKind.i64.wrap (Int.tdiv a0 2)) = ji15 := (i64_w _).trans hji15
    by_cases c16 : 0 ≤ (ji15)
    ·rw [if_pos c16] at H
     have c16b0 : decide (0 ≤ (ji15)) = true := decide_eq_true c16
     clear c16
     by_cases c17 : (ji15) < (y462.length : Int)
     ·rw [if_pos c17] at H
      have c17b0 : decide ((ji15) < (y462.length : Int)) = true := decide_eq_true c17
      clear c17
      obtain rfl := Option.some.inj H
      go_enter Tryz.func54, Tryz.ntmps54
      go_wp2_with (first | ((with_reducible refine gate_callee (f := 53) rfl ?_); refine goesL_ (some 9) rfl rfl Tryz.func53 (by kernel_rfl) rfl #[.bool a2] rfl q22_ ?_; (with_reducible refine (spec_l3One.calls a2 t457 _ A4.out).mono ?_); rintro e w' ⟨rfl, ⟨nd, rfl⟩⟩; refine ⟨_, rfl, ?_⟩) | ((with_reducible refine gate_dst (N := 28) rfl ?_); refine Kd.R_lit (Kd.int .i64) _ 2 ?hg (N := 28) ?hd (xs := ([4, 4, 1, 2] : List Int)) (inner := [.int .i64 4, .int .i64 4, .int .i64 1, .int .i64 2]) (ok := fun _ => True) (okp := fun _ => True) ?hr ?hp (fun _ hk => hk) trivial (Below.refl _ _) (Nat.le_refl _) (by simp) ?_; (case hd => rfl); (case hg => rfl); (case hr => exact q73_); (case hp => exact q66_); intro v463 w18 ho19 hb hg_ hnew_; clear hg_ hnew_; (first | rw [← Ny462.out] at ho19 | (simp only [Int.reduceToNat] at ho19; rw [← Ny462.out] at ho19)); have n0_ := Aside0.mk (Kd.R_lower ho19 (below_size q23_)); have n1_ := Aside0.mk (below_step q23_ hb); clear HB; have HO464 := n0_; have HB := n1_; clear n0_ n1_; clear hb ho19; obtain ⟨Ao20, co20, eo20⟩ := Kd.R_slice HO464.out; subst eo20; have p465 : 0 ≤ ((ji15) : Int) := of_decide_eq_true q44_; have q465 : (ji15) < (y462.length : Int) := of_decide_eq_true q44_; obtain ⟨ad465, e465, hx465_0⟩ := Kd.at_int (Kd.R_reads' HO464.out).2.2 (ji15) p465 q465; cases e465; replace p465 := eq_true p465; replace q465 := eq_true q465))
      go_ret
      exact ⟨by first | rfl | (simp [errW_none, errW_some] <;> rfl) | (simp only [← hji15]; first | rfl | (simp [errW_none, errW_some] <;> rfl)) | (simp [*, errW_none, errW_some] <;> rfl) | (exfalso; simp_all; done), q23_⟩
     ·rw [if_neg c17] at H
      exact absurd H (by simp)
    ·rw [if_neg c16] at H
     exact absurd H (by simp)
  ·rw [if_neg c13] at H
   have c13b0 : (a1 == 1) = false := beq_eq_false_iff_ne.mpr c13
   have c13b1 : (a1 != 1) = true := bne_iff_ne.mpr c13
   by_cases c21 : a1 = 2
   ·rw [if_pos c21] at H
    have c21b0 : (a1 == 2) = true := beq_iff_eq.mpr c21
    have c21b1 : (a1 != 2) = false := bne_eq_false_iff_eq.mpr c21
    clear c21
    by_cases c22 : a0 < 4
    ·rw [if_pos c22] at H
     have c22b0 : decide (a0 < 4) = true := decide_eq_true c22
     clear c22
     obtain rfl := Option.some.inj H
     go_enter Tryz.func54, Tryz.ntmps54
     go_wp2_with (first | ((with_reducible refine gate_callee (f := 53) rfl ?_); refine goesL_ (some 9) rfl rfl Tryz.func53 (by kernel_rfl) rfl #[.bool a2] rfl q22_ ?_; (with_reducible refine (spec_l3One.calls a2 t457 _ A4.out).mono ?_); rintro e w' ⟨rfl, ⟨nd, rfl⟩⟩; refine ⟨_, rfl, ?_⟩))
     go_ret
     exact ⟨q25_, q23_⟩
    ·rw [if_neg c22] at H
     have c22b0 : decide (a0 < 4) = false := decide_eq_false c22
     clear c22
     obtain ⟨y466, hy466⟩ : ∃ y_ : List Int, y_ = (([2, 4, 2, 4] : List Int)) := ⟨_, rfl⟩
     replace H : (if 0 ≤ (wrap64 (a0 - 4)) then (if (wrap64 (a0 - 4)) < (y466.length : Int) then (some (rd y466 (wrap64 (a0 - 4)))) else (none)) else (none)) = some r := by first | (rw [hy466]; with_reducible exact H) | (have H2_ := (Option.bind_some _ _).symm.trans H; rw [hy466]; with_reducible exact H2_) | (have H2_ := (Option.bind_some _ _).symm.trans H; with_reducible exact H2_) | with_reducible exact H | (rw [hy466]; exact H) | exact H
     have Ny466 := Aside0.mk hy466
     clear hy466
     obtain ⟨ji23, hji23⟩ : ∃ j_ : Int, (wrap64 (a0 - 4)) = j_ := ⟨_, rfl⟩
     replace H : (if 0 ≤ (ji23) then (if (ji23) < (y466.length : Int) then (some (rd y466 (ji23))) else (none)) else (none)) = some r := by first | (rw [hji23] at H; exact H) | (simp only [hji23] at H ⊢; exact H)
     (try rw [hji23] at A4)
     have hji23w : (IntKind.i64.wrap (a0 - 4)) = ji23 := (i64_w _).trans hji23
     by_cases c24 : 0 ≤ (ji23)
     ·rw [if_pos c24] at H
      have c24b0 : decide (0 ≤ (ji23)) = true := decide_eq_true c24
      clear c24
      by_cases c25 : (ji23) < (y466.length : Int)
      ·rw [if_pos c25] at H
       have c25b0 : decide ((ji23) < (y466.length : Int)) = true := decide_eq_true c25
       clear c25
       obtain rfl := Option.some.inj H
       go_enter Tryz.func54, Tryz.ntmps54
       go_wp2_with (first | ((with_reducible refine gate_callee (f := 53) rfl ?_); refine goesL_ (some 9) rfl rfl Tryz.func53 (by kernel_rfl) rfl #[.bool a2] rfl q22_ ?_; (with_reducible refine (spec_l3One.calls a2 t457 _ A4.out).mono ?_); rintro e w' ⟨rfl, ⟨nd, rfl⟩⟩; refine ⟨_, rfl, ?_⟩) | ((with_reducible refine gate_dst (N := 39) rfl ?_); refine Kd.R_lit (Kd.int .i64) _ 2 ?hg (N := 39) ?hd (xs := ([2, 4, 2, 4] : List Int)) (inner := [.int .i64 2, .int .i64 4, .int .i64 2, .int .i64 4]) (ok := fun _ => True) (okp := fun _ => True) ?hr ?hp (fun _ hk => hk) trivial (Below.refl _ _) (Nat.le_refl _) (by simp) ?_; (case hd => rfl); (case hg => rfl); (case hr => exact q73_); (case hp => exact q67_); intro v467 w26 ho27 hb hg_ hnew_; clear hg_ hnew_; (first | rw [← Ny466.out] at ho27 | (simp only [Int.reduceToNat] at ho27; rw [← Ny466.out] at ho27)); have n0_ := Aside0.mk (Kd.R_lower ho27 (below_size q23_)); have n1_ := Aside0.mk (below_step q23_ hb); clear HB; have HO468 := n0_; have HB := n1_; clear n0_ n1_; clear hb ho27; obtain ⟨Ao28, co28, eo28⟩ := Kd.R_slice HO468.out; subst eo28; have p469 : 0 ≤ ((ji23) : Int) := of_decide_eq_true q44_; have q469 : (ji23) < (y466.length : Int) := of_decide_eq_true q44_; obtain ⟨ad469, e469, hx469_0⟩ := Kd.at_int (Kd.R_reads' HO468.out).2.2 (ji23) p469 q469; cases e469; replace p469 := eq_true p469; replace q469 := eq_true q469))
       go_ret
       exact ⟨q10_, q23_⟩
      ·rw [if_neg c25] at H
       exact absurd H (by simp)
     ·rw [if_neg c24] at H
      exact absurd H (by simp)
   ·rw [if_neg c21] at H
    have c21b0 : (a1 == 2) = false := beq_eq_false_iff_ne.mpr c21
    have c21b1 : (a1 != 2) = true := bne_iff_ne.mpr c21
    by_cases c29 : a1 = 3
    ·rw [if_pos c29] at H
     have c29b0 : (a1 == 3) = true := beq_iff_eq.mpr c29
     have c29b1 : (a1 != 3) = false := bne_eq_false_iff_eq.mpr c29
     clear c29
     by_cases c30 : a0 = 0
     ·rw [if_pos c30] at H
      have c30b0 : (a0 == 0) = true := beq_iff_eq.mpr c30
      have c30b1 : (a0 != 0) = false := bne_eq_false_iff_eq.mpr c30
      clear c30
      obtain rfl := Option.some.inj H
      go_enter Tryz.func54, Tryz.ntmps54
      go_wp2_with (first | ((with_reducible refine gate_callee (f := 53) rfl ?_); refine goesL_ (some 9) rfl rfl Tryz.func53 (by kernel_rfl) rfl #[.bool a2] rfl q22_ ?_; (with_reducible refine (spec_l3One.calls a2 t457 _ A4.out).mono ?_); rintro e w' ⟨rfl, ⟨nd, rfl⟩⟩; refine ⟨_, rfl, ?_⟩))
      go_ret
      exact ⟨q25_, q23_⟩
     ·rw [if_neg c30] at H
      have c30b0 : (a0 == 0) = false := beq_eq_false_iff_ne.mpr c30
      have c30b1 : (a0 != 0) = true := bne_iff_ne.mpr c30
      obtain rfl := Option.some.inj H
      go_enter Tryz.func54, Tryz.ntmps54
      go_wp2_with (first | ((with_reducible refine gate_callee (f := 53) rfl ?_); refine goesL_ (some 9) rfl rfl Tryz.func53 (by kernel_rfl) rfl #[.bool a2] rfl q22_ ?_; (with_reducible refine (spec_l3One.calls a2 t457 _ A4.out).mono ?_); rintro e w' ⟨rfl, ⟨nd, rfl⟩⟩; refine ⟨_, rfl, ?_⟩))
      go_ret
      exact ⟨q25_, q23_⟩
    ·rw [if_neg c29] at H
     have c29b0 : (a1 == 3) = false := beq_eq_false_iff_ne.mpr c29
     have c29b1 : (a1 != 3) = true := bne_iff_ne.mpr c29
     by_cases c31 : a1 = 4
     ·rw [if_pos c31] at H
      have c31b0 : (a1 == 4) = true := beq_iff_eq.mpr c31
      have c31b1 : (a1 != 4) = false := bne_eq_false_iff_eq.mpr c31
      clear c31
      obtain rfl := Option.some.inj H
      go_enter Tryz.func54, Tryz.ntmps54
      go_wp2_with (first | ((with_reducible refine gate_callee (f := 53) rfl ?_); refine goesL_ (some 9) rfl rfl Tryz.func53 (by kernel_rfl) rfl #[.bool a2] rfl q22_ ?_; (with_reducible refine (spec_l3One.calls a2 t457 _ A4.out).mono ?_); rintro e w' ⟨rfl, ⟨nd, rfl⟩⟩; refine ⟨_, rfl, ?_⟩))
      go_ret
      exact ⟨q25_, q23_⟩
     ·rw [if_neg c31] at H
      have c31b0 : (a1 == 4) = false := beq_eq_false_iff_ne.mpr c31
      have c31b1 : (a1 != 4) = true := bne_iff_ne.mpr c31
      by_cases c32 : a1 = 5
      ·rw [if_pos c32] at H
       have c32b0 : (a1 == 5) = true := beq_iff_eq.mpr c32
       have c32b1 : (a1 != 5) = false := bne_eq_false_iff_eq.mpr c32
       clear c32
       by_cases c33 : a0 = 1
       ·rw [if_pos c33] at H
        have c33b0 : (a0 == 1) = true := beq_iff_eq.mpr c33
        have c33b1 : (a0 != 1) = false := bne_eq_false_iff_eq.mpr c33
        clear c33
        obtain rfl := Option.some.inj H
        go_enter Tryz.func54, Tryz.ntmps54
        go_wp2_with (first | ((with_reducible refine gate_callee (f := 53) rfl ?_); refine goesL_ (some 9) rfl rfl Tryz.func53 (by kernel_rfl) rfl #[.bool a2] rfl q22_ ?_; (with_reducible refine (spec_l3One.calls a2 t457 _ A4.out).mono ?_); rintro e w' ⟨rfl, ⟨nd, rfl⟩⟩; refine ⟨_, rfl, ?_⟩))
        go_ret
        exact ⟨q25_, q23_⟩
       ·rw [if_neg c33] at H
        have c33b0 : (a0 == 1) = false := beq_eq_false_iff_ne.mpr c33
        have c33b1 : (a0 != 1) = true := bne_iff_ne.mpr c33
        obtain rfl := Option.some.inj H
        go_enter Tryz.func54, Tryz.ntmps54
        go_wp2_with (first | ((with_reducible refine gate_callee (f := 53) rfl ?_); refine goesL_ (some 9) rfl rfl Tryz.func53 (by kernel_rfl) rfl #[.bool a2] rfl q22_ ?_; (with_reducible refine (spec_l3One.calls a2 t457 _ A4.out).mono ?_); rintro e w' ⟨rfl, ⟨nd, rfl⟩⟩; refine ⟨_, rfl, ?_⟩))
        go_ret
        exact ⟨q25_, q23_⟩
      ·rw [if_neg c32] at H
       have c32b0 : (a1 == 5) = false := beq_eq_false_iff_ne.mpr c32
       have c32b1 : (a1 != 5) = true := bne_iff_ne.mpr c32
       by_cases c34 : a1 = 6
       ·rw [if_pos c34] at H
        have c34b0 : (a1 == 6) = true := beq_iff_eq.mpr c34
        have c34b1 : (a1 != 6) = false := bne_eq_false_iff_eq.mpr c34
        clear c34
        obtain rfl := Option.some.inj H
        go_enter Tryz.func54, Tryz.ntmps54
        go_wp2_with (first | ((with_reducible refine gate_callee (f := 53) rfl ?_); refine goesL_ (some 9) rfl rfl Tryz.func53 (by kernel_rfl) rfl #[.bool a2] rfl q22_ ?_; (with_reducible refine (spec_l3One.calls a2 t457 _ A4.out).mono ?_); rintro e w' ⟨rfl, ⟨nd, rfl⟩⟩; refine ⟨_, rfl, ?_⟩))
        go_ret
        exact ⟨q25_, q23_⟩
       ·rw [if_neg c34] at H
        have c34b0 : (a1 == 6) = false := beq_eq_false_iff_ne.mpr c34
        have c34b1 : (a1 != 6) = true := bne_iff_ne.mpr c34
        obtain rfl := Option.some.inj H
        go_enter Tryz.func54, Tryz.ntmps54
        go_wp2_with (first | ((with_reducible refine gate_callee (f := 53) rfl ?_); refine goesL_ (some 9) rfl rfl Tryz.func53 (by kernel_rfl) rfl #[.bool a2] rfl q22_ ?_; (with_reducible refine (spec_l3One.calls a2 t457 _ A4.out).mono ?_); rintro e w' ⟨rfl, ⟨nd, rfl⟩⟩; refine ⟨_, rfl, ?_⟩))
        go_ret
        exact ⟨q25_, q23_⟩
end Go.Proofs.YtodlnnoekccmmaaGreatDoor.QFnLengths
