/- The machine's side of a law, written by a program of this session for this claim. -/
import Derived.Test.YtodlnnoekccmmaaGreatDoorYQq
import Derived.Test.YtodlnnoekccmmaaGreatDoorYQFnLengthsx0
import Derived.Test.YtodlnnoekccmmaaGreatDoorYQFnLengthsx1
import Derived.Test.YtodlnnoekccmmaaGreatDoorYQFnLengthsx4
import Derived.Test.YtodlnnoekccmmaaGreatDoorYQFnLengthsx6
import Derived.Test.YtodlnnoekccmmaaGreatDoorYQFnLengthsx7
import Derived.Test.YtodlnnoekccmmaaGreatDoorYQFnLengthsx13
namespace Go.Proofs.YtodlnnoekccmmaaGreatDoor.QFnLengths
open Go.Proofs.YtodlnnoekccmmaaGreatDoor.Qq
open Go.RowKit Go.Proofs.YtodlnnoekccmmaaGreatDoor.LibX Go.Proofs.YtodlnnoekccmmaaGreatDoor.LibE Go.Proofs.YtodlnnoekccmmaaGreatDoorW.PrintWords Go.Proofs.YtodlnnoekccmmaaGreatDoorW.PrintLast Go.Proofs.YtodlnnoekccmmaaGreatDoorW.PrintMore
attribute [local go_sem] max2_int min2_int max_two min_two max_three min_three max_four min_four   -- for this text's walks alone
set_option maxHeartbeats 8000000
set_option maxRecDepth 100000
set_option linter.unusedVariables false
set_option linter.unusedSimpArgs false
mutual
def spec_CyclesOf.j0 : Nat → Int → Bool → Bool → Int → Int → Int → Bool → Option (Int)
 | 0, _, _, _, _, _, _, _ => none
 | k + 1, x0, x1, x2, x7, x8, x9, x21 => if x21 = true then (some 2) else (if x1 = true then (spec_CyclesOf.j1 k x0 x1 x2 x7 x8 x9 (x7 == 1)) else (spec_CyclesOf.j1 k x0 x1 x2 x7 x8 x9 false))
def spec_CyclesOf.j1 : Nat → Int → Bool → Bool → Int → Int → Int → Bool → Option (Int)
 | 0, _, _, _, _, _, _, _ => none
 | k + 1, x0, x1, x2, x7, x8, x9, x27 => if x27 = true then (some 3) else (if x1 = true then (some 4) else (if x0 = 118 then (some 1) else (if x7 = 1 then (if x8 = 6 then ((spec_l3One.f true).bind fun t471 => (some (wrap64 (1 + t471)))) else ((spec_l3One.f (x9 == 6)).bind fun t472 => (some (wrap64 (1 + t472))))) else (if x7 = 2 then ((spec_l3One.f (x9 == 6)).bind fun t473 => (some (wrap64 (1 + t473)))) else (if x7 = 3 then ((spec_l3Cycles.f x8 x9 x2).bind fun t474 => (some t474)) else (if x9 = 0 then (if x8 < 4 then ((some (([1, 5, 1, 3] : List Int) : List Int)).bind fun y475 => (if 0 ≤ x8 then (if x8 < (y475.length : Int) then (some (rd y475 x8)) else (none)) else (none))) else ((spec_l3One.f x2).bind fun t479 => (some (wrap64 (2 + t479))))) else (if x9 = 1 then (some (wrap64 (3 - (Int.tmod x8 2)))) else (if x9 = 2 then (spec_CyclesOf.j2 k x8 x9 (x9 == 2)) else (spec_CyclesOf.j2 k x8 x9 (x9 == 3))))))))))
def spec_CyclesOf.j2 : Nat → Int → Int → Bool → Option (Int)
 | 0, _, _, _ => none
 | k + 1, x8, x63, x80 => if x80 = true then (some 2) else (if x63 = 4 then (spec_CyclesOf.j3 k x8 x63 (x63 == 4)) else (spec_CyclesOf.j3 k x8 x63 (x63 == 5)))
def spec_CyclesOf.j3 : Nat → Int → Int → Bool → Option (Int)
 | 0, _, _, _ => none
 | k + 1, x8, x63, x83 => if x83 = true then ((spec_l3One.f (x8 == 6)).bind fun t480 => (some (wrap64 (1 + (wrap64 (2 * t480)))))) else (if x63 = 6 then ((spec_l3One.f (x8 == 6)).bind fun t481 => (some (wrap64 (2 + t481)))) else (some 1))
end
def spec_CyclesOf.f (k : Nat) (a0 : Int) (a1 : Bool) (a2 : Bool) : Option (Int) := (spec_LengthOf.f k a0 a1).bind fun t470 => (if t470 = 0 then (some 0) else (if a1 = true then (spec_CyclesOf.j0 k a0 a1 a2 (wrap64 (Int.tdiv a0 64)) (Int.tmod (wrap64 (Int.tdiv a0 8)) 8) (Int.tmod a0 8) ((Int.tmod a0 8) != 6)) else (spec_CyclesOf.j0 k a0 a1 a2 (wrap64 (Int.tdiv a0 64)) (Int.tmod (wrap64 (Int.tdiv a0 8)) 8) (Int.tmod a0 8) false)))
theorem spec_CyclesOf.mono_l : ∀ k, (∀ y0 y1 y2 y3 y4 y5 y6, LeO (spec_CyclesOf.j0 k y0 y1 y2 y3 y4 y5 y6) (spec_CyclesOf.j0 (k + 1) y0 y1 y2 y3 y4 y5 y6)) ∧ (∀ y0 y1 y2 y3 y4 y5 y6, LeO (spec_CyclesOf.j1 k y0 y1 y2 y3 y4 y5 y6) (spec_CyclesOf.j1 (k + 1) y0 y1 y2 y3 y4 y5 y6)) ∧ (∀ y0 y1 y2, LeO (spec_CyclesOf.j2 k y0 y1 y2) (spec_CyclesOf.j2 (k + 1) y0 y1 y2)) ∧ (∀ y0 y1 y2, LeO (spec_CyclesOf.j3 k y0 y1 y2) (spec_CyclesOf.j3 (k + 1) y0 y1 y2))
 | 0 => ⟨fun _ _ _ _ _ _ _ r h => by simp [spec_CyclesOf.j0] at h, fun _ _ _ _ _ _ _ r h => by simp [spec_CyclesOf.j1] at h, fun _ _ _ r h => by simp [spec_CyclesOf.j2] at h, fun _ _ _ r h => by simp [spec_CyclesOf.j3] at h⟩
 | k + 1 => by
  obtain ⟨ih0, ih1, ih2, ih3⟩ := spec_CyclesOf.mono_l k
  refine ⟨?_, ?_, ?_, ?_⟩
  ·intro y0 y1 y2 y3 y4 y5 y6
   unfold spec_CyclesOf.j0
   repeat' first
   | (with_reducible first | exact ih0 _ _ _ _ _ _ _ | exact ih1 _ _ _ _ _ _ _ | exact ih2 _ _ _ | exact ih3 _ _ _ | exact spec_LengthOf.mono _ _ _ | exact LeO.refl _ | exact LeO.none _ | refine LeO.ite ?_ ?_ | refine LeO.bind ?_ (fun _ => ?_))
   | exact ih0 _ _ _ _ _ _ _
   | exact ih1 _ _ _ _ _ _ _
   | exact ih2 _ _ _
   | exact ih3 _ _ _
   | exact spec_LengthOf.mono _ _ _
   | exact LeO.none _
   | refine LeO.ite ?_ ?_
   | refine LeO.bind ?_ (fun _ => ?_)
  ·intro y0 y1 y2 y3 y4 y5 y6
   unfold spec_CyclesOf.j1
   repeat' first
   | (with_reducible first | exact ih0 _ _ _ _ _ _ _ | exact ih1 _ _ _ _ _ _ _ | exact ih2 _ _ _ | exact ih3 _ _ _ | exact spec_LengthOf.mono _ _ _ | exact LeO.refl _ | exact LeO.none _ | refine LeO.ite ?_ ?_ | refine LeO.bind ?_ (fun _ => ?_))
   | exact ih0 _ _ _ _ _ _ _
   | exact ih1 _ _ _ _ _ _ _
   | exact ih2 _ _ _
   | exact ih3 _ _ _
   | exact spec_LengthOf.mono _ _ _
   | exact LeO.none _
   | refine LeO.ite ?_ ?_
   | refine LeO.bind ?_ (fun _ => ?_)
  ·intro y0 y1 y2
   unfold spec_CyclesOf.j2
   repeat' first
   | (with_reducible first | exact ih0 _ _ _ _ _ _ _ | exact ih1 _ _ _ _ _ _ _ | exact ih2 _ _ _ | exact ih3 _ _ _ | exact spec_LengthOf.mono _ _ _ | exact LeO.refl _ | exact LeO.none _ | refine LeO.ite ?_ ?_ | refine LeO.bind ?_ (fun _ => ?_))
   | exact ih0 _ _ _ _ _ _ _
   | exact ih1 _ _ _ _ _ _ _
   | exact ih2 _ _ _
   | exact ih3 _ _ _
   | exact spec_LengthOf.mono _ _ _
   | exact LeO.none _
   | refine LeO.ite ?_ ?_
   | refine LeO.bind ?_ (fun _ => ?_)
  ·intro y0 y1 y2
   unfold spec_CyclesOf.j3
   repeat' first
   | (with_reducible first | exact ih0 _ _ _ _ _ _ _ | exact ih1 _ _ _ _ _ _ _ | exact ih2 _ _ _ | exact ih3 _ _ _ | exact spec_LengthOf.mono _ _ _ | exact LeO.refl _ | exact LeO.none _ | refine LeO.ite ?_ ?_ | refine LeO.bind ?_ (fun _ => ?_))
   | exact ih0 _ _ _ _ _ _ _
   | exact ih1 _ _ _ _ _ _ _
   | exact ih2 _ _ _
   | exact ih3 _ _ _
   | exact spec_LengthOf.mono _ _ _
   | exact LeO.none _
   | refine LeO.ite ?_ ?_
   | refine LeO.bind ?_ (fun _ => ?_)
theorem spec_CyclesOf.mono : ∀ a0 a1 a2 k, LeO (spec_CyclesOf.f k a0 a1 a2) (spec_CyclesOf.f (k + 1) a0 a1 a2) := by
 intro a0 a1 a2 k
 obtain ⟨ih0, ih1, ih2, ih3⟩ := spec_CyclesOf.mono_l k
 unfold spec_CyclesOf.f
 repeat' first
   | (with_reducible first | exact ih0 _ _ _ _ _ _ _ | exact ih1 _ _ _ _ _ _ _ | exact ih2 _ _ _ | exact ih3 _ _ _ | exact spec_LengthOf.mono _ _ _ | exact LeO.refl _ | exact LeO.none _ | refine LeO.ite ?_ ?_ | refine LeO.bind ?_ (fun _ => ?_))
   | exact ih0 _ _ _ _ _ _ _
   | exact ih1 _ _ _ _ _ _ _
   | exact ih2 _ _ _
   | exact ih3 _ _ _
   | exact spec_LengthOf.mono _ _ _
   | exact LeO.none _
   | refine LeO.ite ?_ ?_
   | refine LeO.bind ?_ (fun _ => ?_)
theorem spec_CyclesOf.calls (k : Nat) (a0 : Int) (a1 : Bool) (a2 : Bool) (r : Int) (w : World) (h : spec_CyclesOf.f k a0 a1 a2 = some r) :
  Calls Tryz.prog 16 #[.int .i64 a0, .bool a1, .bool a2] w fun e w' => e = .returned (.int .i64 r) ∧ Below w.heap.size w w' := by
 have HB := Aside0.mk (Below.refl w.heap.size w)
 have H : ((spec_LengthOf.f k a0 a1).bind fun t470 => (if t470 = 0 then (some 0) else (if a1 = true then (spec_CyclesOf.j0 k a0 a1 a2 (wrap64 (Int.tdiv a0 64)) (Int.tmod (wrap64 (Int.tdiv a0 8)) 8) (Int.tmod a0 8) ((Int.tmod a0 8) != 6)) else (spec_CyclesOf.j0 k a0 a1 a2 (wrap64 (Int.tdiv a0 64)) (Int.tmod (wrap64 (Int.tdiv a0 8)) 8) (Int.tmod a0 8) false)))) = some r := h
 clear h
 replace H := Option.bind_eq_some_iff.mp H
 obtain ⟨t470, A40, H⟩ := H
 have A4 := Aside0.mk A40
 clear A40
 by_cases c5 : t470 = 0
 ·rw [if_pos c5] at H
  have c5b0 : (t470 == 0) = true := beq_iff_eq.mpr c5
  have c5b1 : (t470 != 0) = false := bne_eq_false_iff_eq.mpr c5
  clear c5
  obtain rfl := Option.some.inj H
  go_enter Tryz.func16, Tryz.ntmps16
  go_wp2_with (first | ((with_reducible refine gate_callee (f := 15) rfl ?_); refine goesL_ (some 12) rfl rfl Tryz.func15 (by kernel_rfl) rfl #[.int .i64 a0, .bool a1] rfl q22_ ?_; (with_reducible refine (spec_LengthOf.calls k a0 a1 t470 _ A4.out).mono ?_); rintro e w6 ⟨rfl, hb⟩; refine ⟨_, rfl, ?_⟩; replace HB := Aside0.mk (below_step q23_ hb); (try clear hb)))
  go_ret
  exact ⟨q25_, q23_⟩
 ·rw [if_neg c5] at H
  have c5b0 : (t470 == 0) = false := beq_eq_false_iff_ne.mpr c5
  have c5b1 : (t470 != 0) = true := bne_iff_ne.mpr c5
  have HC7 := Aside0.mk H
  clear H
  go_enter Tryz.func16, Tryz.ntmps16
  go_upto_region 6 with (first | ((with_reducible refine gate_callee (f := 15) rfl ?_); refine goesL_ (some 12) rfl rfl Tryz.func15 (by kernel_rfl) rfl #[.int .i64 a0, .bool a1] rfl q22_ ?_; (with_reducible refine (spec_LengthOf.calls k a0 a1 t470 _ A4.out).mono ?_); rintro e w8 ⟨rfl, hb⟩; refine ⟨_, rfl, ?_⟩; replace HB := Aside0.mk (below_step q23_ hb); (try clear hb)))
  (try simp only [Act.put, List.setIfInBounds_toArray, List.set_cons_zero, List.set_cons_succ])
  go_cut [21] (fun v21 wc => ∃ (kq : Nat) (x21_6 : Bool), v21 = .bool x21_6 ∧ Aside0 (spec_CyclesOf.j0 kq a0 a1 a2 (wrap64 (Int.tdiv a0 64)) (Int.tmod (wrap64 (Int.tdiv a0 8)) 8) (Int.tmod a0 8) x21_6 = some r) ∧ Aside0 (kq ≤ k) ∧ Aside0 (Below w.heap.size w wc))
  case first =>
   have H := HC7.out
   clear HC7
   by_cases c9 : a1 = true
   ·subst c9
    replace H : (spec_CyclesOf.j0 k a0 true a2 (wrap64 (Int.tdiv a0 64)) (Int.tmod (wrap64 (Int.tdiv a0 8)) 8) (Int.tmod a0 8) ((Int.tmod a0 8) != 6)) = some r := by rw [if_pos rfl] at H; exact H
    have H' := Aside0.mk H
    clear H
    go_wp2
    go_meet
    case rel => exact ⟨_, (((Int.tmod a0 8) != 6)), q29_, H', ⟨q56_⟩, ⟨q23_⟩⟩
   ·replace c9 := Bool.eq_false_iff.mpr c9
    subst c9
    replace H : (spec_CyclesOf.j0 k a0 false a2 (wrap64 (Int.tdiv a0 64)) (Int.tmod (wrap64 (Int.tdiv a0 8)) 8) (Int.tmod a0 8) false) = some r := by rw [if_neg (show ¬ (false = true) by decide)] at H; exact H
    have H' := Aside0.mk H
    clear H
    go_wp2
    go_meet
    case rel => exact ⟨_, (false), q29_, H', ⟨q56_⟩, ⟨q23_⟩⟩
  case rest =>
   clear HC7
   try clear c1
   try clear p2
   try clear c5
   try clear c5b0
   try clear c5b1
   try clear p6
   try clear c9
   obtain ⟨kq, x21_6, rfl, HA, HJ6, HB⟩ := hcut
   cases kq with
   | zero => exact absurd HA.out (by simp [spec_CyclesOf.j0])
   | succ kj6 =>
    have H := HA.out
    clear HA
    simp only [spec_CyclesOf.j0] at H
    by_cases c10 : x21_6 = true
    ·subst c10
     replace H : (some 2) = some r := by rw [if_pos rfl] at H; exact H
     obtain rfl := Option.some.inj H
     go_wp2
     go_ret
     exact ⟨q25_, q23_⟩
    ·replace c10 := Bool.eq_false_iff.mpr c10
     subst c10
     replace H : (if a1 = true then (spec_CyclesOf.j1 kj6 a0 a1 a2 (wrap64 (Int.tdiv a0 64)) (Int.tmod (wrap64 (Int.tdiv a0 8)) 8) (Int.tmod a0 8) ((wrap64 (Int.tdiv a0 64)) == 1)) else (spec_CyclesOf.j1 kj6 a0 a1 a2 (wrap64 (Int.tdiv a0 64)) (Int.tmod (wrap64 (Int.tdiv a0 8)) 8) (Int.tmod a0 8) false)) = some r := by rw [if_neg (show ¬ (false = true) by decide)] at H; exact H
     have HC11 := Aside0.mk H
     clear H
     go_upto_region 8 with (fail)
     go_cut [27] (fun v27 wc => ∃ (kq : Nat) (x27_10 : Bool), v27 = .bool x27_10 ∧ Aside0 (spec_CyclesOf.j1 kq a0 a1 a2 (wrap64 (Int.tdiv a0 64)) (Int.tmod (wrap64 (Int.tdiv a0 8)) 8) (Int.tmod a0 8) x27_10 = some r) ∧ Aside0 (kq ≤ kj6) ∧ Aside0 (Below w.heap.size w wc))
     case first =>
      have H := HC11.out
      clear HC11
      by_cases c12 : a1 = true
      ·subst c12
       replace H : (spec_CyclesOf.j1 kj6 a0 true a2 (wrap64 (Int.tdiv a0 64)) (Int.tmod (wrap64 (Int.tdiv a0 8)) 8) (Int.tmod a0 8) ((wrap64 (Int.tdiv a0 64)) == 1)) = some r := by rw [if_pos rfl] at H; exact H
       have H' := Aside0.mk H
       clear H
       go_wp2
       go_meet
       case rel => exact ⟨_, (((wrap64 (Int.tdiv a0 64)) == 1)), q29_, H', ⟨q43_⟩, ⟨q23_⟩⟩
      ·replace c12 := Bool.eq_false_iff.mpr c12
       subst c12
       replace H : (spec_CyclesOf.j1 kj6 a0 false a2 (wrap64 (Int.tdiv a0 64)) (Int.tmod (wrap64 (Int.tdiv a0 8)) 8) (Int.tmod a0 8) false) = some r := by rw [if_neg (show ¬ (false = true) by decide)] at H; exact H
       have H' := Aside0.mk H
       clear H
       go_wp2
       go_meet
       case rel => exact ⟨_, (false), q29_, H', ⟨q43_⟩, ⟨q23_⟩⟩
     case rest =>
      clear HC11
      try clear c1
      try clear p2 p2
      try clear c5
      try clear c5b0
      try clear c5b1
      try clear p6 p6
      try clear c9
      try clear c10
      try clear c12
      obtain ⟨kq, x27_10, rfl, HA, HJ10, HB⟩ := hcut
      cases kq with
      | zero => exact absurd HA.out (by simp [spec_CyclesOf.j1])
      | succ kj10 =>
       have H := HA.out
       clear HA
       simp only [spec_CyclesOf.j1] at H
       by_cases c13 : x27_10 = true
       ·subst c13
        replace H : (some 3) = some r := by rw [if_pos rfl] at H; exact H
        obtain rfl := Option.some.inj H
        go_wp2
        go_ret
        exact ⟨q25_, q23_⟩
       ·replace c13 := Bool.eq_false_iff.mpr c13
        subst c13
        replace H : (if a1 = true then (some 4) else (if a0 = 118 then (some 1) else (if (wrap64 (Int.tdiv a0 64)) = 1 then (if (Int.tmod (wrap64 (Int.tdiv a0 8)) 8) = 6 then ((spec_l3One.f true).bind fun t471 => (some (wrap64 (1 + t471)))) else ((spec_l3One.f ((Int.tmod a0 8) == 6)).bind fun t472 => (some (wrap64 (1 + t472))))) else (if (wrap64 (Int.tdiv a0 64)) = 2 then ((spec_l3One.f ((Int.tmod a0 8) == 6)).bind fun t473 => (some (wrap64 (1 + t473)))) else (if (wrap64 (Int.tdiv a0 64)) = 3 then ((spec_l3Cycles.f (Int.tmod (wrap64 (Int.tdiv a0 8)) 8) (Int.tmod a0 8) a2).bind fun t474 => (some t474)) else (if (Int.tmod a0 8) = 0 then (if (Int.tmod (wrap64 (Int.tdiv a0 8)) 8) < 4 then ((some (([1, 5, 1, 3] : List Int) : List Int)).bind fun y475 => (if 0 ≤ (Int.tmod (wrap64 (Int.tdiv a0 8)) 8) then (if (Int.tmod (wrap64 (Int.tdiv a0 8)) 8) < (y475.length : Int) then (some (rd y475 (Int.tmod (wrap64 (Int.tdiv a0 8)) 8))) else (none)) else (none))) else ((spec_l3One.f a2).bind fun t479 => (some (wrap64 (2 + t479))))) else (if (Int.tmod a0 8) = 1 then (some (wrap64 (3 - (Int.tmod (Int.tmod (wrap64 (Int.tdiv a0 8)) 8) 2)))) else (if (Int.tmod a0 8) = 2 then (spec_CyclesOf.j2 kj10 (Int.tmod (wrap64 (Int.tdiv a0 8)) 8) (Int.tmod a0 8) ((Int.tmod a0 8) == 2)) else (spec_CyclesOf.j2 kj10 (Int.tmod (wrap64 (Int.tdiv a0 8)) 8) (Int.tmod a0 8) ((Int.tmod a0 8) == 3)))))))))) = some r := by rw [if_neg (show ¬ (false = true) by decide)] at H; exact H
        by_cases c14 : a1 = true
        ·subst c14
         replace H : (some 4) = some r := by rw [if_pos rfl] at H; exact H
         obtain rfl := Option.some.inj H
         go_wp2
         go_ret
         exact ⟨q25_, q23_⟩
        ·replace c14 := Bool.eq_false_iff.mpr c14
         subst c14
         replace H : (if a0 = 118 then (some 1) else (if (wrap64 (Int.tdiv a0 64)) = 1 then (if (Int.tmod (wrap64 (Int.tdiv a0 8)) 8) = 6 then ((spec_l3One.f true).bind fun t471 => (some (wrap64 (1 + t471)))) else ((spec_l3One.f ((Int.tmod a0 8) == 6)).bind fun t472 => (some (wrap64 (1 + t472))))) else (if (wrap64 (Int.tdiv a0 64)) = 2 then ((spec_l3One.f ((Int.tmod a0 8) == 6)).bind fun t473 => (some (wrap64 (1 + t473)))) else (if (wrap64 (Int.tdiv a0 64)) = 3 then ((spec_l3Cycles.f (Int.tmod (wrap64 (Int.tdiv a0 8)) 8) (Int.tmod a0 8) a2).bind fun t474 => (some t474)) else (if (Int.tmod a0 8) = 0 then (if (Int.tmod (wrap64 (Int.tdiv a0 8)) 8) < 4 then ((some (([1, 5, 1, 3] : List Int) : List Int)).bind fun y475 => (if 0 ≤ (Int.tmod (wrap64 (Int.tdiv a0 8)) 8) then (if (Int.tmod (wrap64 (Int.tdiv a0 8)) 8) < (y475.length : Int) then (some (rd y475 (Int.tmod (wrap64 (Int.tdiv a0 8)) 8))) else (none)) else (none))) else ((spec_l3One.f a2).bind fun t479 => (some (wrap64 (2 + t479))))) else (if (Int.tmod a0 8) = 1 then (some (wrap64 (3 - (Int.tmod (Int.tmod (wrap64 (Int.tdiv a0 8)) 8) 2)))) else (if (Int.tmod a0 8) = 2 then (spec_CyclesOf.j2 kj10 (Int.tmod (wrap64 (Int.tdiv a0 8)) 8) (Int.tmod a0 8) ((Int.tmod a0 8) == 2)) else (spec_CyclesOf.j2 kj10 (Int.tmod (wrap64 (Int.tdiv a0 8)) 8) (Int.tmod a0 8) ((Int.tmod a0 8) == 3))))))))) = some r := by rw [if_neg (show ¬ (false = true) by decide)] at H; exact H
         by_cases c15 : a0 = 118
         ·rw [if_pos c15] at H
          have c15b0 : (a0 == 118) = true := beq_iff_eq.mpr c15
          have c15b1 : (a0 != 118) = false := bne_eq_false_iff_eq.mpr c15
          clear c15
          obtain rfl := Option.some.inj H
          go_wp2
          go_ret
          exact ⟨q25_, q23_⟩
         ·rw [if_neg c15] at H
          have c15b0 : (a0 == 118) = false := beq_eq_false_iff_ne.mpr c15
          have c15b1 : (a0 != 118) = true := bne_iff_ne.mpr c15
          by_cases c16 : (wrap64 (Int.tdiv a0 64)) = 1
          ·rw [if_pos c16] at H
           have c16b0 : ((wrap64 (Int.tdiv a0 64)) == 1) = true := beq_iff_eq.mpr c16
           have c16b1 : ((wrap64 (Int.tdiv a0 64)) != 1) = false := bne_eq_false_iff_eq.mpr c16
           clear c16
           by_cases c17 : (Int.tmod (wrap64 (Int.tdiv a0 8)) 8) = 6
           ·rw [if_pos c17] at H
            have c17b0 : ((Int.tmod (wrap64 (Int.tdiv a0 8)) 8) == 6) = true := beq_iff_eq.mpr c17
            have c17b1 : ((Int.tmod (wrap64 (Int.tdiv a0 8)) 8) != 6) = false := bne_eq_false_iff_eq.mpr c17
            clear c17
            replace H := Option.bind_eq_some_iff.mp H
            obtain ⟨t471, A180, H⟩ := H
            have A18 := Aside0.mk A180
            clear A180
            obtain rfl := Option.some.inj H
            go_wp2_with (first | ((with_reducible refine gate_callee (f := 53) rfl ?_); refine goesL_ (some 47) rfl rfl Tryz.func53 (by kernel_rfl) rfl #[.bool true] rfl q22_ ?_; (with_reducible refine (spec_l3One.calls true t471 _ A18.out).mono ?_); rintro e w' ⟨rfl, ⟨nd, rfl⟩⟩; refine ⟨_, rfl, ?_⟩))
            go_ret
            exact ⟨q25_, q23_⟩
           ·rw [if_neg c17] at H
            have c17b0 : ((Int.tmod (wrap64 (Int.tdiv a0 8)) 8) == 6) = false := beq_eq_false_iff_ne.mpr c17
            have c17b1 : ((Int.tmod (wrap64 (Int.tdiv a0 8)) 8) != 6) = true := bne_iff_ne.mpr c17
            replace H := Option.bind_eq_some_iff.mp H
            obtain ⟨t472, A190, H⟩ := H
            have A19 := Aside0.mk A190
            clear A190
            obtain rfl := Option.some.inj H
            go_wp2_with (first | ((with_reducible refine gate_callee (f := 53) rfl ?_); refine goesL_ (some 47) rfl rfl Tryz.func53 (by kernel_rfl) rfl #[.bool ((Int.tmod a0 8) == 6)] rfl q22_ ?_; (with_reducible refine (spec_l3One.calls ((Int.tmod a0 8) == 6) t472 _ A19.out).mono ?_); rintro e w' ⟨rfl, ⟨nd, rfl⟩⟩; refine ⟨_, rfl, ?_⟩))
            go_ret
            exact ⟨q25_, q23_⟩
          ·rw [if_neg c16] at H
           have c16b0 : ((wrap64 (Int.tdiv a0 64)) == 1) = false := beq_eq_false_iff_ne.mpr c16
           have c16b1 : ((wrap64 (Int.tdiv a0 64)) != 1) = true := bne_iff_ne.mpr c16
           by_cases c20 : (wrap64 (Int.tdiv a0 64)) = 2
           ·rw [if_pos c20] at H
            have c20b0 : ((wrap64 (Int.tdiv a0 64)) == 2) = true := beq_iff_eq.mpr c20
            have c20b1 : ((wrap64 (Int.tdiv a0 64)) != 2) = false := bne_eq_false_iff_eq.mpr c20
            clear c20
            replace H := Option.bind_eq_some_iff.mp H
            obtain ⟨t473, A210, H⟩ := H
            have A21 := Aside0.mk A210
            clear A210
            obtain rfl := Option.some.inj H
            go_wp2_with (first | ((with_reducible refine gate_callee (f := 53) rfl ?_); refine goesL_ (some 54) rfl rfl Tryz.func53 (by kernel_rfl) rfl #[.bool ((Int.tmod a0 8) == 6)] rfl q22_ ?_; (with_reducible refine (spec_l3One.calls ((Int.tmod a0 8) == 6) t473 _ A21.out).mono ?_); rintro e w' ⟨rfl, ⟨nd, rfl⟩⟩; refine ⟨_, rfl, ?_⟩))
            go_ret
            exact ⟨q25_, q23_⟩
           ·rw [if_neg c20] at H
            have c20b0 : ((wrap64 (Int.tdiv a0 64)) == 2) = false := beq_eq_false_iff_ne.mpr c20
            have c20b1 : ((wrap64 (Int.tdiv a0 64)) != 2) = true := bne_iff_ne.mpr c20
            by_cases c22 : (wrap64 (Int.tdiv a0 64)) = 3
            ·rw [if_pos c22] at H
             have c22b0 : ((wrap64 (Int.tdiv a0 64)) == 3) = true := beq_iff_eq.mpr c22
             have c22b1 : ((wrap64 (Int.tdiv a0 64)) != 3) = false := bne_eq_false_iff_eq.mpr c22
             clear c22
             replace H := Option.bind_eq_some_iff.mp H
             obtain ⟨t474, A230, H⟩ := H
             have A23 := Aside0.mk A230
             clear A230
             obtain rfl := Option.some.inj H
             go_wp2_with (first | ((with_reducible refine gate_callee (f := 54) rfl ?_); refine goesL_ (some 62) rfl rfl Tryz.func54 (by kernel_rfl) rfl #[.int .i64 (Int.tmod (wrap64 (Int.tdiv a0 8)) 8), .int .i64 (Int.tmod a0 8), .bool a2] rfl q0_ ?_; (with_reducible refine (spec_l3Cycles.calls (Int.tmod (wrap64 (Int.tdiv a0 8)) 8) (Int.tmod a0 8) a2 t474 _ A23.out).mono ?_); rintro e w24 ⟨rfl, hb⟩; refine ⟨_, rfl, ?_⟩; replace HB := Aside0.mk (below_step q23_ hb); (try clear hb)))
             go_ret
             exact ⟨q25_, q23_⟩
            ·rw [if_neg c22] at H
             have c22b0 : ((wrap64 (Int.tdiv a0 64)) == 3) = false := beq_eq_false_iff_ne.mpr c22
             have c22b1 : ((wrap64 (Int.tdiv a0 64)) != 3) = true := bne_iff_ne.mpr c22
             by_cases c25 : (Int.tmod a0 8) = 0
             ·rw [if_pos c25] at H
              have c25b0 : ((Int.tmod a0 8) == 0) = true := beq_iff_eq.mpr c25
              have c25b1 : ((Int.tmod a0 8) != 0) = false := bne_eq_false_iff_eq.mpr c25
              clear c25
              by_cases c26 : (Int.tmod (wrap64 (Int.tdiv a0 8)) 8) < 4
              ·rw [if_pos c26] at H
               have c26b0 : decide ((Int.tmod (wrap64 (Int.tdiv a0 8)) 8) < 4) = true := decide_eq_true c26
               clear c26
               obtain ⟨y475, hy475⟩ : ∃ y_ : List Int, y_ = (([1, 5, 1, 3] : List Int)) := ⟨_, rfl⟩
               replace H : (if 0 ≤ (Int.tmod (wrap64 (Int.tdiv a0 8)) 8) then (if (Int.tmod (wrap64 (Int.tdiv a0 8)) 8) < (y475.length : Int) then (some (rd y475 (Int.tmod (wrap64 (Int.tdiv a0 8)) 8))) else (none)) else (none)) = some r := by first | (rw [hy475]; with_reducible exact H) | (have H2_ := (Option.bind_some _ _).symm.trans H; rw [hy475]; with_reducible exact H2_) | (have H2_ := (Option.bind_some _ _).symm.trans H; with_reducible exact H2_) | with_reducible exact H | (rw [hy475]; exact H) | exact H
               have Ny475 := Aside0.mk hy475
               clear hy475
               obtain ⟨ji27, hji27⟩ : ∃ j_ : Int, (Int.tmod (wrap64 (Int.tdiv a0 8)) 8) = j_ := ⟨_, rfl⟩
               replace H : (if 0 ≤ (ji27) then (if (ji27) < (y475.length : Int) then (some (rd y475 (ji27))) else (none)) else (none)) = some r := by first | (rw [hji27] at H; exact H) | (simp only [hji27] at H ⊢; exact H)
               (try rw [hji27] at c26b0)
               by_cases c28 : 0 ≤ (ji27)
               ·rw [if_pos c28] at H
                have c28b0 : decide (0 ≤ (ji27)) = true := decide_eq_true c28
                clear c28
                by_cases c29 : (ji27) < (y475.length : Int)
                ·rw [if_pos c29] at H
                 have c29b0 : decide ((ji27) < (y475.length : Int)) = true := decide_eq_true c29
                 clear c29
                 obtain rfl := Option.some.inj H
                 go_wp2_with (first | ((with_reducible refine gate_dst (N := 68) rfl ?_); refine Kd.R_lit (Kd.int .i64) _ 2 ?hg (N := 68) ?hd (xs := ([1, 5, 1, 3] : List Int)) (inner := [.int .i64 1, .int .i64 5, .int .i64 1, .int .i64 3]) (ok := fun _ => True) (okp := fun _ => True) ?hr ?hp (fun _ hk => hk) trivial (Below.refl _ _) (Nat.le_refl _) (by simp) ?_; (case hd => rfl); (case hg => rfl); (case hr => exact q73_); (case hp => exact q64_); intro v476 w30 ho31 hb hg_ hnew_; clear hg_ hnew_; (first | rw [← Ny475.out] at ho31 | (simp only [Int.reduceToNat] at ho31; rw [← Ny475.out] at ho31)); have n0_ := Aside0.mk (Kd.R_lower ho31 (below_size q23_)); have n1_ := Aside0.mk (below_step q23_ hb); clear HB; have HO477 := n0_; have HB := n1_; clear n0_ n1_; clear hb ho31; obtain ⟨Ao32, co32, eo32⟩ := Kd.R_slice HO477.out; subst eo32; have p478 : 0 ≤ ((ji27) : Int) := of_decide_eq_true q44_; have q478 : (ji27) < (y475.length : Int) := of_decide_eq_true q44_; obtain ⟨ad478, e478, hx478_0⟩ := Kd.at_int (Kd.R_reads' HO477.out).2.2 (ji27) p478 q478; cases e478; replace p478 := eq_true p478; replace q478 := eq_true q478))
                 go_ret
                 exact ⟨by first | rfl | (simp [errW_none, errW_some] <;> rfl) | (simp only [← hji27]; first | rfl | (simp [errW_none, errW_some] <;> rfl)) | (simp [*, errW_none, errW_some] <;> rfl) | (exfalso; simp_all; done), q23_⟩
                ·rw [if_neg c29] at H
                 exact absurd H (by simp)
               ·rw [if_neg c28] at H
                exact absurd H (by simp)
              ·rw [if_neg c26] at H
               have c26b0 : decide ((Int.tmod (wrap64 (Int.tdiv a0 8)) 8) < 4) = false := decide_eq_false c26
               clear c26
               replace H := Option.bind_eq_some_iff.mp H
               obtain ⟨t479, A330, H⟩ := H
               have A33 := Aside0.mk A330
               clear A330
               obtain rfl := Option.some.inj H
               go_wp2_with (first | ((with_reducible refine gate_callee (f := 53) rfl ?_); refine goesL_ (some 73) rfl rfl Tryz.func53 (by kernel_rfl) rfl #[.bool a2] rfl q22_ ?_; (with_reducible refine (spec_l3One.calls a2 t479 _ A33.out).mono ?_); rintro e w' ⟨rfl, ⟨nd, rfl⟩⟩; refine ⟨_, rfl, ?_⟩))
               go_ret
               exact ⟨q25_, q23_⟩
             ·rw [if_neg c25] at H
              have c25b0 : ((Int.tmod a0 8) == 0) = false := beq_eq_false_iff_ne.mpr c25
              have c25b1 : ((Int.tmod a0 8) != 0) = true := bne_iff_ne.mpr c25
              by_cases c34 : (Int.tmod a0 8) = 1
              ·rw [if_pos c34] at H
               have c34b0 : ((Int.tmod a0 8) == 1) = true := beq_iff_eq.mpr c34
               have c34b1 : ((Int.tmod a0 8) != 1) = false := bne_eq_false_iff_eq.mpr c34
               clear c34
               obtain rfl := Option.some.inj H
               go_wp2
               go_ret
               exact ⟨q25_, q23_⟩
              ·rw [if_neg c34] at H
               have c34b0 : ((Int.tmod a0 8) == 1) = false := beq_eq_false_iff_ne.mpr c34
               have c34b1 : ((Int.tmod a0 8) != 1) = true := bne_iff_ne.mpr c34
               have HC35 := Aside0.mk H
               clear H
               go_upto_if 80 with (fail)
               go_cut [80] (fun v80 wc => ∃ (kq : Nat) (x80_34 : Bool), v80 = .bool x80_34 ∧ Aside0 (spec_CyclesOf.j2 kq (Int.tmod (wrap64 (Int.tdiv a0 8)) 8) (Int.tmod a0 8) x80_34 = some r) ∧ Aside0 (kq ≤ kj10) ∧ Aside0 (Below w.heap.size w wc))
               case first =>
                have H := HC35.out
                clear HC35
                by_cases c36 : (Int.tmod a0 8) = 2
                ·rw [if_pos c36] at H
                 have c36b0 : ((Int.tmod a0 8) == 2) = true := beq_iff_eq.mpr c36
                 have c36b1 : ((Int.tmod a0 8) != 2) = false := bne_eq_false_iff_eq.mpr c36
                 clear c36
                 (first | rw [c36b0] | (simp only [i64_w, i32_w]; rw [c36b0]) | skip)
                 have H' := Aside0.mk H
                 clear H
                 go_wp2
                 go_meet
                 case rel => exact ⟨_, (((Int.tmod a0 8) == 2)), q29_, H', ⟨by have := HJ6.out; have := HJ10.out; first | omega | exact Nat.le_refl _⟩, ⟨q23_⟩⟩
                ·rw [if_neg c36] at H
                 have c36b0 : ((Int.tmod a0 8) == 2) = false := beq_eq_false_iff_ne.mpr c36
                 have c36b1 : ((Int.tmod a0 8) != 2) = true := bne_iff_ne.mpr c36
                 (first | rw [c36b0] | (simp only [i64_w, i32_w]; rw [c36b0]) | skip)
                 have H' := Aside0.mk H
                 clear H
                 go_wp2
                 go_meet
                 case rel => exact ⟨_, (((Int.tmod a0 8) == 3)), q29_, H', ⟨by have := HJ6.out; have := HJ10.out; first | omega | exact Nat.le_refl _⟩, ⟨q23_⟩⟩
               case rest =>
                clear HC35
                try clear c1
                try clear c2
                try clear p2 p2
                try clear c3
                try clear p4
                try clear q4
                try clear hx4
                try clear c5
                try clear c5b0
                try clear c5b1
                try clear p6 p6
                try clear c9
                try clear c10
                try clear c12
                try clear c13
                try clear c14
                try clear c15
                try clear c15b0
                try clear c15b1
                try clear c16
                try clear c16b0
                try clear c16b1
                try clear c17
                try clear c17b0
                try clear c17b1
                try clear c20
                try clear c20b0
                try clear c20b1
                try clear c22
                try clear c22b0
                try clear c22b1
                try clear c25
                try clear c25b0
                try clear c25b1
                try clear c26
                try clear c26b0
                try clear c28
                try clear c28b0
                try clear c29
                try clear c29b0
                try clear c34
                try clear c34b0
                try clear c34b1
                try clear c36
                try clear c36b0
                try clear c36b1
                try clear hx478_0
                try clear p478
                try clear q478
                obtain ⟨kq, x80_34, rfl, HA, HJ34, HB⟩ := hcut
                cases kq with
                | zero => exact absurd HA.out (by simp [spec_CyclesOf.j2])
                | succ kj34 =>
                 have H := HA.out
                 clear HA
                 simp only [spec_CyclesOf.j2] at H
                 by_cases c37 : x80_34 = true
                 ·subst c37
                  replace H : (some 2) = some r := by rw [if_pos rfl] at H; exact H
                  obtain rfl := Option.some.inj H
                  go_wp2
                  go_ret
                  exact ⟨q25_, q23_⟩
                 ·replace c37 := Bool.eq_false_iff.mpr c37
                  subst c37
                  replace H : (if (Int.tmod a0 8) = 4 then (spec_CyclesOf.j3 kj34 (Int.tmod (wrap64 (Int.tdiv a0 8)) 8) (Int.tmod a0 8) ((Int.tmod a0 8) == 4)) else (spec_CyclesOf.j3 kj34 (Int.tmod (wrap64 (Int.tdiv a0 8)) 8) (Int.tmod a0 8) ((Int.tmod a0 8) == 5))) = some r := by rw [if_neg (show ¬ (false = true) by decide)] at H; exact H
                  have HC38 := Aside0.mk H
                  clear H
                  go_upto_if 83 with (fail)
                  go_cut [83] (fun v83 wc => ∃ (kq : Nat) (x83_37 : Bool), v83 = .bool x83_37 ∧ Aside0 (spec_CyclesOf.j3 kq (Int.tmod (wrap64 (Int.tdiv a0 8)) 8) (Int.tmod a0 8) x83_37 = some r) ∧ Aside0 (kq ≤ kj34) ∧ Aside0 (Below w.heap.size w wc))
                  case first =>
                   have H := HC38.out
                   clear HC38
                   by_cases c39 : (Int.tmod a0 8) = 4
                   ·rw [if_pos c39] at H
                    have c39b0 : ((Int.tmod a0 8) == 4) = true := beq_iff_eq.mpr c39
                    have c39b1 : ((Int.tmod a0 8) != 4) = false := bne_eq_false_iff_eq.mpr c39
                    clear c39
                    (first | rw [c39b0] | (simp only [i64_w, i32_w]; rw [c39b0]) | skip)
                    have H' := Aside0.mk H
                    clear H
                    go_wp2
                    go_meet
                    case rel => exact ⟨_, (((Int.tmod a0 8) == 4)), q29_, H', ⟨by have := HJ6.out; have := HJ10.out; have := HJ34.out; first | omega | exact Nat.le_refl _⟩, ⟨q23_⟩⟩
                   ·rw [if_neg c39] at H
                    have c39b0 : ((Int.tmod a0 8) == 4) = false := beq_eq_false_iff_ne.mpr c39
                    have c39b1 : ((Int.tmod a0 8) != 4) = true := bne_iff_ne.mpr c39
                    (first | rw [c39b0] | (simp only [i64_w, i32_w]; rw [c39b0]) | skip)
                    have H' := Aside0.mk H
                    clear H
                    go_wp2
                    go_meet
                    case rel => exact ⟨_, (((Int.tmod a0 8) == 5)), q29_, H', ⟨by have := HJ6.out; have := HJ10.out; have := HJ34.out; first | omega | exact Nat.le_refl _⟩, ⟨q23_⟩⟩
                  case rest =>
                   clear HC38
                   try clear c1
                   try clear c2
                   try clear p2 p2
                   try clear c3
                   try clear p4 p4
                   try clear q4 q4
                   try clear hx4
                   try clear c5
                   try clear c5b0
                   try clear c5b1
                   try clear p6 p6
                   try clear c9
                   try clear c10
                   try clear c12
                   try clear c13
                   try clear c14
                   try clear c15
                   try clear c15b0
                   try clear c15b1
                   try clear c16
                   try clear c16b0
                   try clear c16b1
                   try clear c17
                   try clear c17b0
                   try clear c17b1
                   try clear c20
                   try clear c20b0
                   try clear c20b1
                   try clear c22
                   try clear c22b0
                   try clear c22b1
                   try clear c25
                   try clear c25b0
                   try clear c25b1
                   try clear c26
                   try clear c26b0
                   try clear c28
                   try clear c28b0
                   try clear c29
                   try clear c29b0
                   try clear c34
                   try clear c34b0
                   try clear c34b1
                   try clear c36
                   try clear c36b0
                   try clear c36b1
                   try clear c37
                   try clear c39
                   try clear c39b0
                   try clear c39b1
                   try clear hx478_0
                   try clear p478
                   try clear q478
                   obtain ⟨kq, x83_37, rfl, HA, HJ37, HB⟩ := hcut
                   cases kq with
                   | zero => exact absurd HA.out (by simp [spec_CyclesOf.j3])
                   | succ kj37 =>
                    have H := HA.out
                    clear HA
                    simp only [spec_CyclesOf.j3] at H
                    by_cases c40 : x83_37 = true
                    ·subst c40
                     replace H : ((spec_l3One.f ((Int.tmod (wrap64 (Int.tdiv a0 8)) 8) == 6)).bind fun t480 => (some (wrap64 (1 + (wrap64 (2 * t480)))))) = some r := by rw [if_pos rfl] at H; exact H
                     replace H := Option.bind_eq_some_iff.mp H
                     obtain ⟨t480, A410, H⟩ := H
                     have A41 := Aside0.mk A410
                     clear A410
                     obtain rfl := Option.some.inj H
                     go_wp2_with (first | ((with_reducible refine gate_callee (f := 53) rfl ?_); refine goesL_ (some 88) rfl rfl Tryz.func53 (by kernel_rfl) rfl #[.bool ((Int.tmod (wrap64 (Int.tdiv a0 8)) 8) == 6)] rfl q3_ ?_; (with_reducible refine (spec_l3One.calls ((Int.tmod (wrap64 (Int.tdiv a0 8)) 8) == 6) t480 _ A41.out).mono ?_); rintro e w' ⟨rfl, ⟨nd, rfl⟩⟩; refine ⟨_, rfl, ?_⟩))
                     go_ret
                     exact ⟨q25_, q23_⟩
                    ·replace c40 := Bool.eq_false_iff.mpr c40
                     subst c40
                     replace H : (if (Int.tmod a0 8) = 6 then ((spec_l3One.f ((Int.tmod (wrap64 (Int.tdiv a0 8)) 8) == 6)).bind fun t481 => (some (wrap64 (2 + t481)))) else (some 1)) = some r := by rw [if_neg (show ¬ (false = true) by decide)] at H; exact H
                     by_cases c42 : (Int.tmod a0 8) = 6
                     ·rw [if_pos c42] at H
                      have c42b0 : ((Int.tmod a0 8) == 6) = true := beq_iff_eq.mpr c42
                      have c42b1 : ((Int.tmod a0 8) != 6) = false := bne_eq_false_iff_eq.mpr c42
                      clear c42
                      replace H := Option.bind_eq_some_iff.mp H
                      obtain ⟨t481, A430, H⟩ := H
                      have A43 := Aside0.mk A430
                      clear A430
                      obtain rfl := Option.some.inj H
                      go_wp2_with (first | ((with_reducible refine gate_callee (f := 53) rfl ?_); refine goesL_ (some 95) rfl rfl Tryz.func53 (by kernel_rfl) rfl #[.bool ((Int.tmod (wrap64 (Int.tdiv a0 8)) 8) == 6)] rfl q3_ ?_; (with_reducible refine (spec_l3One.calls ((Int.tmod (wrap64 (Int.tdiv a0 8)) 8) == 6) t481 _ A43.out).mono ?_); rintro e w' ⟨rfl, ⟨nd, rfl⟩⟩; refine ⟨_, rfl, ?_⟩))
                      go_ret
                      exact ⟨q25_, q23_⟩
                     ·rw [if_neg c42] at H
                      have c42b0 : ((Int.tmod a0 8) == 6) = false := beq_eq_false_iff_ne.mpr c42
                      have c42b1 : ((Int.tmod a0 8) != 6) = true := bne_iff_ne.mpr c42
                      obtain rfl := Option.some.inj H
                      go_wp2
                      go_ret
                      exact ⟨q25_, q23_⟩
def impl_InsOk.f (k : Nat) (a0_0 : Int) (a0_1 : Bool) (a0_2 : Int) : Option (Bool) := (impl_TemplateOf.f k a0_0 a0_1).bind fun t483 => (if t483.toList = ([] : List UInt8) then (some false) else ((impl_holeOf.f k t483).bind fun t484 => (if t484.toList = ([] : List UInt8) then (some (a0_2 == 0)) else (if t484.toList = ([110, 49, 54] : List UInt8) then ((impl_isWord.f a0_2).bind fun t485 => (some t485)) else ((impl_isByte.f a0_2).bind fun t486 => (some t486))))))
theorem impl_InsOk.mono : ∀ a0 a1 a2 k, LeO (impl_InsOk.f k a0 a1 a2) (impl_InsOk.f (k + 1) a0 a1 a2) := by
 intro a0 a1 a2 k
 unfold impl_InsOk.f
 repeat' first
   | (with_reducible first | exact impl_TemplateOf.mono _ _ _ | exact impl_holeOf.mono _ _ | exact LeO.refl _ | exact LeO.none _ | refine LeO.ite ?_ ?_ | refine LeO.bind ?_ (fun _ => ?_))
   | exact impl_TemplateOf.mono _ _ _
   | exact impl_holeOf.mono _ _
   | exact LeO.none _
   | refine LeO.ite ?_ ?_
   | refine LeO.bind ?_ (fun _ => ?_)
theorem impl_InsOk.calls (k : Nat) (a0_0 : Int) (a0_1 : Bool) (a0_2 : Int) (r : Bool) (w : World) (h : impl_InsOk.f k a0_0 a0_1 a0_2 = some r) (hG : Go.Proofs.YtodlnnoekccmmaaGreatDoor.LibW.GL w := by first | exact hG | exact hG.below q1_ | exact hG.drewN _) :
  Calls Tryz.prog 20 #[.agg #[.int .i64 a0_0, .bool a0_1, .int .i64 a0_2]] w fun e w' => e = .returned (.bool r) ∧ Below w.heap.size w w' := by
 have hu30 := Tryz.underlying30
 have HB := Aside0.mk (Below.refl w.heap.size w)
 have H : ((impl_TemplateOf.f k a0_0 a0_1).bind fun t483 => (if t483.toList = ([] : List UInt8) then (some false) else ((impl_holeOf.f k t483).bind fun t484 => (if t484.toList = ([] : List UInt8) then (some (a0_2 == 0)) else (if t484.toList = ([110, 49, 54] : List UInt8) then ((impl_isWord.f a0_2).bind fun t485 => (some t485)) else ((impl_isByte.f a0_2).bind fun t486 => (some t486))))))) = some r := h
 clear h
 replace H := Option.bind_eq_some_iff.mp H
 obtain ⟨t483, A20, H⟩ := H
 have A2 := Aside0.mk A20
 clear A20
 by_cases c3 : t483.toList = ([] : List UInt8)
 ·rw [if_pos c3] at H
  have c3b0 : (t483.toList == ([] : List UInt8)) = true := beq_iff_eq.mpr c3
  have c3b1 : (t483.toList != ([] : List UInt8)) = false := bne_eq_false_iff_eq.mpr c3
  clear c3
  obtain rfl := Option.some.inj H
  go_enter Tryz.func20, Tryz.ntmps20
  go_wp2_with (first | ((with_reducible refine gate_dst (N := 1) rfl ?_); refine box_event ?hg (N := 1) ?hd (cs := #[.int .i64 a0_0, .bool a0_1, .int .i64 a0_2]) (t := 30) ?hr ?_; (case hd => rfl); (case hg => rfl); (case hr => exact q73_); intro gb482 hg w4 hbox hb; have n0_ := Aside0.mk (below_step q23_ hb); have n1_ := Aside0.mk (hbox); have n2_ := Aside0.mk ((q15_ : w.heap.size ≤ gb482)); have n3_ := Aside0.mk ((q15_ : w.heap.size ≤ gb482)); clear HB; have HB := n0_; have BK482 := n1_; have GW482 := n2_; have GE482 := n3_; clear n0_ n1_ n2_ n3_; clear hb hbox hg; have hcz5_0 : w4.cell? ⟨gb482, 0, none⟩ = some (.int .i64 a0_0) := (blk_cell BK482.out 0).trans rfl; have hcz5_1 : w4.cell? ⟨gb482, 1, none⟩ = some (.bool a0_1) := (blk_cell BK482.out 1).trans rfl; have hcz5_2 : w4.cell? ⟨gb482, 2, none⟩ = some (.int .i64 a0_2) := (blk_cell BK482.out 2).trans rfl; have hfz5_0 := blk_frozen BK482.out 0; have hfz5_1 := blk_frozen BK482.out 1; have hfz5_2 := blk_frozen BK482.out 2) | ((with_reducible refine gate_callee (f := 46) rfl ?_); refine goesL_ (some 8) rfl rfl Tryz.func46 (by kernel_rfl) rfl #[.int .i64 a0_0, .bool a0_1] rfl q22_ ?_; (with_reducible refine (impl_TemplateOf.calls k a0_0 a0_1 t483 _ A2.out).mono ?_); rintro e w6 ⟨rfl, hb⟩; refine ⟨_, rfl, ?_⟩; have n0_ := Aside0.mk (blk_below (g := gb482) (o := .cells #[.int .i64 a0_0, .bool a0_1, .int .i64 a0_2] 30 (0, 0)) q26_ hb); have n1_ := Aside0.mk (below_step q16_ hb); clear BK482; clear HB; have BK482 := n0_; have HB := n1_; clear n0_ n1_; (try clear hb)))
  go_ret
  exact ⟨q25_, q16_⟩
 ·rw [if_neg c3] at H
  have c3b0 : (t483.toList == ([] : List UInt8)) = false := beq_eq_false_iff_ne.mpr c3
  have c3b1 : (t483.toList != ([] : List UInt8)) = true := bne_iff_ne.mpr c3
  replace H := Option.bind_eq_some_iff.mp H
  obtain ⟨t484, A70, H⟩ := H
  have A7 := Aside0.mk A70
  clear A70
  by_cases c8 : t484.toList = ([] : List UInt8)
  ·rw [if_pos c8] at H
   have c8b0 : (t484.toList == ([] : List UInt8)) = true := beq_iff_eq.mpr c8
   have c8b1 : (t484.toList != ([] : List UInt8)) = false := bne_eq_false_iff_eq.mpr c8
   clear c8
   obtain rfl := Option.some.inj H
   go_enter Tryz.func20, Tryz.ntmps20
   go_wp2_with (first | ((with_reducible refine gate_dst (N := 1) rfl ?_); refine box_event ?hg (N := 1) ?hd (cs := #[.int .i64 a0_0, .bool a0_1, .int .i64 a0_2]) (t := 30) ?hr ?_; (case hd => rfl); (case hg => rfl); (case hr => exact q73_); intro gb482 hg w9 hbox hb; have n0_ := Aside0.mk (below_step q23_ hb); have n1_ := Aside0.mk (hbox); have n2_ := Aside0.mk ((q15_ : w.heap.size ≤ gb482)); have n3_ := Aside0.mk ((q15_ : w.heap.size ≤ gb482)); clear HB; have HB := n0_; have BK482 := n1_; have GW482 := n2_; have GE482 := n3_; clear n0_ n1_ n2_ n3_; clear hb hbox hg; have hcz10_0 : w9.cell? ⟨gb482, 0, none⟩ = some (.int .i64 a0_0) := (blk_cell BK482.out 0).trans rfl; have hcz10_1 : w9.cell? ⟨gb482, 1, none⟩ = some (.bool a0_1) := (blk_cell BK482.out 1).trans rfl; have hcz10_2 : w9.cell? ⟨gb482, 2, none⟩ = some (.int .i64 a0_2) := (blk_cell BK482.out 2).trans rfl; have hfz10_0 := blk_frozen BK482.out 0; have hfz10_1 := blk_frozen BK482.out 1; have hfz10_2 := blk_frozen BK482.out 2) | ((with_reducible refine gate_callee (f := 46) rfl ?_); refine goesL_ (some 8) rfl rfl Tryz.func46 (by kernel_rfl) rfl #[.int .i64 a0_0, .bool a0_1] rfl q22_ ?_; (with_reducible refine (impl_TemplateOf.calls k a0_0 a0_1 t483 _ A2.out).mono ?_); rintro e w11 ⟨rfl, hb⟩; refine ⟨_, rfl, ?_⟩; have n0_ := Aside0.mk (blk_below (g := gb482) (o := .cells #[.int .i64 a0_0, .bool a0_1, .int .i64 a0_2] 30 (0, 0)) q26_ hb); have n1_ := Aside0.mk (below_step q16_ hb); clear BK482; clear HB; have BK482 := n0_; have HB := n1_; clear n0_ n1_; (try clear hb)) | ((with_reducible refine gate_callee (f := 47) rfl ?_); refine goesL_ (some 12) rfl rfl Tryz.func47 (by kernel_rfl) rfl #[.string t483] rfl q22_ ?_; (with_reducible refine (impl_holeOf.calls k t483 t484 _ A7.out).mono ?_); rintro e w12 ⟨rfl, hb⟩; refine ⟨_, rfl, ?_⟩; have n0_ := Aside0.mk (blk_below (g := gb482) (o := .cells #[.int .i64 a0_0, .bool a0_1, .int .i64 a0_2] 30 (0, 0)) q26_ hb); have n1_ := Aside0.mk (below_step q16_ hb); clear BK482; clear HB; have BK482 := n0_; have HB := n1_; clear n0_ n1_; (try clear hb); have hcz13_0 : w12.cell? ⟨gb482, 0, none⟩ = some (.int .i64 a0_0) := (blk_cell BK482.out 0).trans rfl; have hcz13_1 : w12.cell? ⟨gb482, 1, none⟩ = some (.bool a0_1) := (blk_cell BK482.out 1).trans rfl; have hcz13_2 : w12.cell? ⟨gb482, 2, none⟩ = some (.int .i64 a0_2) := (blk_cell BK482.out 2).trans rfl; have hfz13_0 := blk_frozen BK482.out 0; have hfz13_1 := blk_frozen BK482.out 1; have hfz13_2 := blk_frozen BK482.out 2))
   go_ret
   exact ⟨q25_, q16_⟩
  ·rw [if_neg c8] at H
   have c8b0 : (t484.toList == ([] : List UInt8)) = false := beq_eq_false_iff_ne.mpr c8
   have c8b1 : (t484.toList != ([] : List UInt8)) = true := bne_iff_ne.mpr c8
   by_cases c14 : t484.toList = ([110, 49, 54] : List UInt8)
   ·rw [if_pos c14] at H
    have c14b0 : (t484.toList == ([110, 49, 54] : List UInt8)) = true := beq_iff_eq.mpr c14
    have c14b1 : (t484.toList != ([110, 49, 54] : List UInt8)) = false := bne_eq_false_iff_eq.mpr c14
    clear c14
    replace H := Option.bind_eq_some_iff.mp H
    obtain ⟨t485, A150, H⟩ := H
    have A15 := Aside0.mk A150
    clear A150
    obtain rfl := Option.some.inj H
    go_enter Tryz.func20, Tryz.ntmps20
    go_wp2_with (first | ((with_reducible refine gate_dst (N := 1) rfl ?_); refine box_event ?hg (N := 1) ?hd (cs := #[.int .i64 a0_0, .bool a0_1, .int .i64 a0_2]) (t := 30) ?hr ?_; (case hd => rfl); (case hg => rfl); (case hr => exact q73_); intro gb482 hg w16 hbox hb; have n0_ := Aside0.mk (below_step q23_ hb); have n1_ := Aside0.mk (hbox); have n2_ := Aside0.mk ((q15_ : w.heap.size ≤ gb482)); have n3_ := Aside0.mk ((q15_ : w.heap.size ≤ gb482)); clear HB; have HB := n0_; have BK482 := n1_; have GW482 := n2_; have GE482 := n3_; clear n0_ n1_ n2_ n3_; clear hb hbox hg; have hcz17_0 : w16.cell? ⟨gb482, 0, none⟩ = some (.int .i64 a0_0) := (blk_cell BK482.out 0).trans rfl; have hcz17_1 : w16.cell? ⟨gb482, 1, none⟩ = some (.bool a0_1) := (blk_cell BK482.out 1).trans rfl; have hcz17_2 : w16.cell? ⟨gb482, 2, none⟩ = some (.int .i64 a0_2) := (blk_cell BK482.out 2).trans rfl; have hfz17_0 := blk_frozen BK482.out 0; have hfz17_1 := blk_frozen BK482.out 1; have hfz17_2 := blk_frozen BK482.out 2) | ((with_reducible refine gate_callee (f := 46) rfl ?_); refine goesL_ (some 8) rfl rfl Tryz.func46 (by kernel_rfl) rfl #[.int .i64 a0_0, .bool a0_1] rfl q22_ ?_; (with_reducible refine (impl_TemplateOf.calls k a0_0 a0_1 t483 _ A2.out).mono ?_); rintro e w18 ⟨rfl, hb⟩; refine ⟨_, rfl, ?_⟩; have n0_ := Aside0.mk (blk_below (g := gb482) (o := .cells #[.int .i64 a0_0, .bool a0_1, .int .i64 a0_2] 30 (0, 0)) q26_ hb); have n1_ := Aside0.mk (below_step q16_ hb); clear BK482; clear HB; have BK482 := n0_; have HB := n1_; clear n0_ n1_; (try clear hb)) | ((with_reducible refine gate_callee (f := 47) rfl ?_); refine goesL_ (some 12) rfl rfl Tryz.func47 (by kernel_rfl) rfl #[.string t483] rfl q22_ ?_; (with_reducible refine (impl_holeOf.calls k t483 t484 _ A7.out).mono ?_); rintro e w19 ⟨rfl, hb⟩; refine ⟨_, rfl, ?_⟩; have n0_ := Aside0.mk (blk_below (g := gb482) (o := .cells #[.int .i64 a0_0, .bool a0_1, .int .i64 a0_2] 30 (0, 0)) q26_ hb); have n1_ := Aside0.mk (below_step q16_ hb); clear BK482; clear HB; have BK482 := n0_; have HB := n1_; clear n0_ n1_; (try clear hb); have hcz20_0 : w19.cell? ⟨gb482, 0, none⟩ = some (.int .i64 a0_0) := (blk_cell BK482.out 0).trans rfl; have hcz20_1 : w19.cell? ⟨gb482, 1, none⟩ = some (.bool a0_1) := (blk_cell BK482.out 1).trans rfl; have hcz20_2 : w19.cell? ⟨gb482, 2, none⟩ = some (.int .i64 a0_2) := (blk_cell BK482.out 2).trans rfl; have hfz20_0 := blk_frozen BK482.out 0; have hfz20_1 := blk_frozen BK482.out 1; have hfz20_2 := blk_frozen BK482.out 2) | ((with_reducible refine gate_callee (f := 57) rfl ?_); refine goesL_ (some 22) rfl rfl Tryz.func57 (by kernel_rfl) rfl #[.int .i64 a0_2] rfl q22_ ?_; (with_reducible refine (impl_isWord.calls a0_2 t485 _ A15.out).mono ?_); rintro e w' ⟨rfl, ⟨nd, rfl⟩⟩; refine ⟨_, rfl, ?_⟩))
    go_ret
    exact ⟨q25_, q16_⟩
   ·rw [if_neg c14] at H
    have c14b0 : (t484.toList == ([110, 49, 54] : List UInt8)) = false := beq_eq_false_iff_ne.mpr c14
    have c14b1 : (t484.toList != ([110, 49, 54] : List UInt8)) = true := bne_iff_ne.mpr c14
    replace H := Option.bind_eq_some_iff.mp H
    obtain ⟨t486, A210, H⟩ := H
    have A21 := Aside0.mk A210
    clear A210
    obtain rfl := Option.some.inj H
    go_enter Tryz.func20, Tryz.ntmps20
    go_wp2_with (first | ((with_reducible refine gate_dst (N := 1) rfl ?_); refine box_event ?hg (N := 1) ?hd (cs := #[.int .i64 a0_0, .bool a0_1, .int .i64 a0_2]) (t := 30) ?hr ?_; (case hd => rfl); (case hg => rfl); (case hr => exact q73_); intro gb482 hg w22 hbox hb; have n0_ := Aside0.mk (below_step q23_ hb); have n1_ := Aside0.mk (hbox); have n2_ := Aside0.mk ((q15_ : w.heap.size ≤ gb482)); have n3_ := Aside0.mk ((q15_ : w.heap.size ≤ gb482)); clear HB; have HB := n0_; have BK482 := n1_; have GW482 := n2_; have GE482 := n3_; clear n0_ n1_ n2_ n3_; clear hb hbox hg; have hcz23_0 : w22.cell? ⟨gb482, 0, none⟩ = some (.int .i64 a0_0) := (blk_cell BK482.out 0).trans rfl; have hcz23_1 : w22.cell? ⟨gb482, 1, none⟩ = some (.bool a0_1) := (blk_cell BK482.out 1).trans rfl; have hcz23_2 : w22.cell? ⟨gb482, 2, none⟩ = some (.int .i64 a0_2) := (blk_cell BK482.out 2).trans rfl; have hfz23_0 := blk_frozen BK482.out 0; have hfz23_1 := blk_frozen BK482.out 1; have hfz23_2 := blk_frozen BK482.out 2) | ((with_reducible refine gate_callee (f := 46) rfl ?_); refine goesL_ (some 8) rfl rfl Tryz.func46 (by kernel_rfl) rfl #[.int .i64 a0_0, .bool a0_1] rfl q22_ ?_; (with_reducible refine (impl_TemplateOf.calls k a0_0 a0_1 t483 _ A2.out).mono ?_); rintro e w24 ⟨rfl, hb⟩; refine ⟨_, rfl, ?_⟩; have n0_ := Aside0.mk (blk_below (g := gb482) (o := .cells #[.int .i64 a0_0, .bool a0_1, .int .i64 a0_2] 30 (0, 0)) q26_ hb); have n1_ := Aside0.mk (below_step q16_ hb); clear BK482; clear HB; have BK482 := n0_; have HB := n1_; clear n0_ n1_; (try clear hb)) | ((with_reducible refine gate_callee (f := 47) rfl ?_); refine goesL_ (some 12) rfl rfl Tryz.func47 (by kernel_rfl) rfl #[.string t483] rfl q22_ ?_; (with_reducible refine (impl_holeOf.calls k t483 t484 _ A7.out).mono ?_); rintro e w25 ⟨rfl, hb⟩; refine ⟨_, rfl, ?_⟩; have n0_ := Aside0.mk (blk_below (g := gb482) (o := .cells #[.int .i64 a0_0, .bool a0_1, .int .i64 a0_2] 30 (0, 0)) q26_ hb); have n1_ := Aside0.mk (below_step q16_ hb); clear BK482; clear HB; have BK482 := n0_; have HB := n1_; clear n0_ n1_; (try clear hb); have hcz26_0 : w25.cell? ⟨gb482, 0, none⟩ = some (.int .i64 a0_0) := (blk_cell BK482.out 0).trans rfl; have hcz26_1 : w25.cell? ⟨gb482, 1, none⟩ = some (.bool a0_1) := (blk_cell BK482.out 1).trans rfl; have hcz26_2 : w25.cell? ⟨gb482, 2, none⟩ = some (.int .i64 a0_2) := (blk_cell BK482.out 2).trans rfl; have hfz26_0 := blk_frozen BK482.out 0; have hfz26_1 := blk_frozen BK482.out 1; have hfz26_2 := blk_frozen BK482.out 2) | ((with_reducible refine gate_callee (f := 58) rfl ?_); refine goesL_ (some 25) rfl rfl Tryz.func58 (by kernel_rfl) rfl #[.int .i64 a0_2] rfl q22_ ?_; (with_reducible refine (impl_isByte.calls a0_2 t486 _ A21.out).mono ?_); rintro e w' ⟨rfl, ⟨nd, rfl⟩⟩; refine ⟨_, rfl, ?_⟩))
    go_ret
    exact ⟨q25_, q16_⟩
def impl_bytesOf.l0 : Nat → Int → Int → List Int → Option (ByteArray)
 | 0, _, _, _ => none
 | k + 1, x0, x1, x5 => if x1 > 0 then (if x5.length < 140737488355328 then (impl_bytesOf.l0 k (x0 / 256) (wrap64 (x1 - 1)) (x5 ++ [(x0) % 256])) else (none)) else (some (strOfNums x5))
def impl_bytesOf.f (k : Nat) (a0 : Int) (a1 : Int) : Option (ByteArray) := impl_bytesOf.l0 k a0 a1 (([] : List Int))
theorem impl_bytesOf.mono_l : ∀ k, (∀ y0 y1 y2, LeO (impl_bytesOf.l0 k y0 y1 y2) (impl_bytesOf.l0 (k + 1) y0 y1 y2))
 | 0 => fun _ _ _ r h => by simp [impl_bytesOf.l0] at h
 | k + 1 => by
  have ih0 := impl_bytesOf.mono_l k
  ·intro y0 y1 y2
   unfold impl_bytesOf.l0
   repeat' first
   | (with_reducible first | exact ih0 _ _ _ | exact LeO.refl _ | exact LeO.none _ | refine LeO.ite ?_ ?_ | refine LeO.bind ?_ (fun _ => ?_))
   | exact ih0 _ _ _
   | exact LeO.none _
   | refine LeO.ite ?_ ?_
   | refine LeO.bind ?_ (fun _ => ?_)
theorem impl_bytesOf.mono : ∀ a0 a1 k, LeO (impl_bytesOf.f k a0 a1) (impl_bytesOf.f (k + 1) a0 a1) := by
 intro a0 a1 k
 have ih0 := impl_bytesOf.mono_l k
 unfold impl_bytesOf.f
 repeat' first
   | (with_reducible first | exact ih0 _ _ _ | exact LeO.refl _ | exact LeO.none _ | refine LeO.ite ?_ ?_ | refine LeO.bind ?_ (fun _ => ?_))
   | exact ih0 _ _ _
   | exact LeO.none _
   | refine LeO.ite ?_ ?_
   | refine LeO.bind ?_ (fun _ => ?_)
theorem impl_bytesOf.calls (k : Nat) (a0 : Int) (a1 : Int) (r : ByteArray) (w : World) (h : impl_bytesOf.f k a0 a1 = some r) :
  Calls Tryz.prog 55 #[.int .i64 a0, .int .i64 a1] w fun e w' => e = .returned (.string r) ∧ Below w.heap.size w w' := by
 have HB := Aside0.mk (Below.refl w.heap.size w)
 have H : (impl_bytesOf.l0 k a0 a1 (([] : List Int))) = some r := h
 clear h
 obtain ⟨y487, hy487⟩ : ∃ y_ : List Int, y_ = (([] : List Int)) := ⟨_, rfl⟩
 replace H : (impl_bytesOf.l0 k a0 a1 y487) = some r := by first | (rw [hy487]; with_reducible exact H) | (have H2_ := (Option.bind_some _ _).symm.trans H; rw [hy487]; with_reducible exact H2_) | (have H2_ := (Option.bind_some _ _).symm.trans H; with_reducible exact H2_) | with_reducible exact H | (rw [hy487]; exact H) | exact H
 have Ny487 := Aside0.mk hy487
 clear hy487
 have H' := Aside0.mk H
 clear H
 go_enter Tryz.func55, Tryz.ntmps55
 go_wp2_with (first | ((with_reducible refine gate_dst (N := 6) rfl ?_); refine Kd.R_lit (Kd.int .u8) _ 5 ?hg (N := 6) ?hd (xs := ([] : List Int)) (inner := []) (ok := fun _ => True) (okp := fun _ => True) ?hr ?hp (fun _ hk => hk) trivial (Below.refl _ _) (Nat.le_refl _) (by simp) ?_; (case hd => rfl); (case hg => rfl); (case hr => exact q73_); (case hp => exact (Reps.none _ _)); intro v488 w3 ho4 hb hg_ hnew_; clear hg_ hnew_; (first | rw [← Ny487.out] at ho4 | (simp only [Int.reduceToNat] at ho4; rw [← Ny487.out] at ho4)); have n0_ := Aside0.mk (Kd.R_lower ho4 (below_size q23_)); have n1_ := Aside0.mk (below_step q23_ hb); clear HB; have HO489 := n0_; have HB := n1_; clear n0_ n1_; clear hb ho4))
 go_loopg [0, 1, 5] k (fun kq v0 v1 v5 w' => ∃ (x0_1 : Int) (x1_1 : Int) (x5_1 : List Int), v0 = .int .i64 x0_1 ∧ v1 = .int .i64 x1_1 ∧ Aside0 (impl_bytesOf.l0 kq x0_1 x1_1 x5_1 = some r) ∧ Aside0 (kq ≤ k) ∧ Aside0 (Kd.R (Kd.int .u8) 5 w' w.heap.size (fun _ => True) v5 x5_1) ∧ Aside0 (Below w.heap.size w w'))
 case atStart => exact ⟨(a0), (a1), (y487), q29_, q29_, H', ⟨Nat.le_refl _⟩, ⟨by (with_reducible repeat (first | apply Kd.R_alloc | apply Kd.R_drewN | apply Kd.R_drew)); exact HO489.out⟩, ⟨q23_⟩⟩
 case round =>
  clear H'
  try clear p2
  obtain ⟨x0_1, x1_1, x5_1, rfl, rfl, HA, HK1, HO_5, HB⟩ := hrel
  cases gk with
  | zero => exact absurd HA.out (by simp [impl_bytesOf.l0])
  | succ k1 =>
   have H := HA.out
   clear HA
   simp only [impl_bytesOf.l0] at H
   by_cases c5 : x1_1 > 0
   ·rw [if_pos c5] at H
    have c5b0 : decide (0 < x1_1) = true := decide_eq_true c5
    clear c5
    by_cases c6 : x5_1.length < 140737488355328
    ·rw [if_pos c6] at H
     have LMc6 := Aside0.mk c6
     clear c6
     obtain ⟨y490, hy490⟩ : ∃ y_ : List Int, y_ = (x5_1 ++ [(x0_1) % 256]) := ⟨_, rfl⟩
     replace H : (impl_bytesOf.l0 k1 (x0_1 / 256) (wrap64 (x1_1 - 1)) y490) = some r := by first | (rw [hy490]; with_reducible exact H) | (have H2_ := (Option.bind_some _ _).symm.trans H; rw [hy490]; with_reducible exact H2_) | (have H2_ := (Option.bind_some _ _).symm.trans H; with_reducible exact H2_) | with_reducible exact H | (rw [hy490]; exact H) | exact H
     have Ny490 := Aside0.mk hy490
     clear hy490
     have H' := Aside0.mk H
     clear H
     go_wp2_with (first | ((with_reducible refine gate_builtin (b := .append) (xs := #[.tmp 11, .tmp 14]) rfl ?_); at_builtin; refine Kd.R_append (Kd.int .u8) (w0 := w) w.heap.size rfl (.tmp 11) (.tmp 14) 22 5 (.int .u8 0) 1 rfl Tryz.underlying22 info5 rfl (by decide) (by omega) u5 x5_1 ((x0_1) % 256) [.int .u8 ((x0_1) % 256)] (fun _ => True) (fun _ => False) rfl rfl ?aP (fun _ hk => hk.elim) ?aF ?aO ?aB ?aS ?aL ?_; (case aP => exact rfl); (case aB => exact q23_); (case aF => exact (fun _ _ => trivial)); (case aO => exact (by (with_reducible repeat (first | apply Kd.R_alloc | apply Kd.R_drewN | apply Kd.R_drew)); exact HO_5.out)); (case aS => exact (below_size q23_)); (case aL => have := LMc6.out; omega); intro v491 w7 ho hb hg hat; rw [← Ny490.out] at ho; have n0_ := Aside0.mk (hb); have n1_ := Aside0.mk (ho); clear HB; clear HO_5; have HB := n0_; have HO492 := n1_; clear n0_ n1_; clear ho hb hg hat))
     go_roundg k1
     case measure => have := HK1.out; omega
     case rel => exact ⟨(x0_1 / 256), (wrap64 (x1_1 - 1)), (y490), q29_, q29_, H', ⟨by have := HK1.out; omega⟩, ⟨by (with_reducible repeat (first | apply Kd.R_alloc | apply Kd.R_drewN | apply Kd.R_drew)); exact HO492.out⟩, ⟨q23_⟩⟩
    ·rw [if_neg c6] at H
     exact absurd H (by simp)
   ·rw [if_neg c5] at H
    have c5b0 : decide (0 < x1_1) = false := decide_eq_false c5
    clear c5
    obtain rfl := Option.some.inj H
    have hcv8 := own_string (P := Tryz.prog) Tryz.underlying22 Tryz.underlying5 Tryz.underlying9 (Kd.own_of_R HO_5.out)
    have hcvq8 := fun m_ : Nat => own_string (P := Tryz.prog) Tryz.underlying22 Tryz.underlying5 Tryz.underlying9 (Kd.own_of_R (Kd.R_drewN HO_5.out m_))
    go_wp2
    go_ret
    exact ⟨q25_, q23_⟩
end Go.Proofs.YtodlnnoekccmmaaGreatDoor.QFnLengths
