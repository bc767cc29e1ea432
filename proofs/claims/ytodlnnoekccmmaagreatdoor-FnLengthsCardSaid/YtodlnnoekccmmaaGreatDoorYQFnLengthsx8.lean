/- The machine's side of a law, written by a program of this session for this claim. -/
import Derived.Test.YtodlnnoekccmmaaGreatDoorYQq
import Derived.Test.YtodlnnoekccmmaaGreatDoorYQFnLengthsx0
import Derived.Test.YtodlnnoekccmmaaGreatDoorYQFnLengthsx6
import Derived.Test.YtodlnnoekccmmaaGreatDoorYQFnLengthsx7
namespace Go.Proofs.YtodlnnoekccmmaaGreatDoor.QFnLengths
open Go.Proofs.YtodlnnoekccmmaaGreatDoor.Qq
open Go.RowKit Go.Proofs.YtodlnnoekccmmaaGreatDoor.LibX Go.Proofs.YtodlnnoekccmmaaGreatDoor.LibE Go.Proofs.YtodlnnoekccmmaaGreatDoorW.PrintWords Go.Proofs.YtodlnnoekccmmaaGreatDoorW.PrintLast Go.Proofs.YtodlnnoekccmmaaGreatDoorW.PrintMore
attribute [local go_sem] max2_int min2_int max_two min_two max_three min_three max_four min_four   -- for this text's walks alone
set_option maxHeartbeats 8000000
set_option maxRecDepth 100000
set_option linter.unusedVariables false
set_option linter.unusedSimpArgs false
mutual
def impl_highCycles.j0 : Nat → Int → Int → Bool → Bool → Option (Int)
 | 0, _, _, _, _ => none
 | k + 1, x0, x1, x2, x7 => if x7 = true then ((impl_either.f x2 5 2).bind fun t276 => (some t276)) else (if x1 = 0 then ((some (([3, 4, 3, 3] : List Int) : List Int)).bind fun y277 => (if 0 ≤ (wrap64 (x0 - 4)) then (if (wrap64 (x0 - 4)) < (y277.length : Int) then (some (rd y277 (wrap64 (x0 - 4)))) else (none)) else (none))) else (if x1 = 1 then (impl_highCycles.j1 k x0 x1 x2 ((Int.tmod x0 2) == 0)) else (impl_highCycles.j1 k x0 x1 x2 false)))
def impl_highCycles.j1 : Nat → Int → Int → Bool → Bool → Option (Int)
 | 0, _, _, _, _ => none
 | k + 1, x0, x1, x2, x24 => if x24 = true then (some 3) else (if x1 = 1 then ((some (([4, 4, 1, 2] : List Int) : List Int)).bind fun y281 => (if 0 ≤ (wrap64 (Int.tdiv x0 2)) then (if (wrap64 (Int.tdiv x0 2)) < (y281.length : Int) then (some (rd y281 (wrap64 (Int.tdiv x0 2)))) else (none)) else (none))) else (if x1 = 2 then (impl_highCycles.j2 k x0 x1 x2 (decide (x0 < 4))) else (impl_highCycles.j2 k x0 x1 x2 false)))
def impl_highCycles.j2 : Nat → Int → Int → Bool → Bool → Option (Int)
 | 0, _, _, _, _ => none
 | k + 1, x0, x1, x2, x40 => if x40 = true then ((impl_either.f x2 4 3).bind fun t285 => (some t285)) else (if x1 = 2 then ((some (([2, 4, 2, 4] : List Int) : List Int)).bind fun y286 => (if 0 ≤ (wrap64 (x0 - 4)) then (if (wrap64 (x0 - 4)) < (y286.length : Int) then (some (rd y286 (wrap64 (x0 - 4)))) else (none)) else (none))) else (if x1 = 3 then ((impl_either.f (x0 == 0) 4 1).bind fun t290 => (some t290)) else (if x1 = 4 then ((impl_either.f x2 6 3).bind fun t291 => (some t291)) else (if x1 = 5 then ((impl_either.f ((Int.tmod x0 2) == 0) 4 6).bind fun t292 => (some t292)) else (if x1 = 6 then (some 2) else (some 4))))))
end
def impl_highCycles.f (k : Nat) (a0 : Int) (a1 : Int) (a2 : Bool) : Option (Int) := if a1 = 0 then (impl_highCycles.j0 k a0 a1 a2 (decide (a0 < 4))) else (impl_highCycles.j0 k a0 a1 a2 false)
theorem impl_highCycles.mono_l : ∀ k, (∀ y0 y1 y2 y3, LeO (impl_highCycles.j0 k y0 y1 y2 y3) (impl_highCycles.j0 (k + 1) y0 y1 y2 y3)) ∧ (∀ y0 y1 y2 y3, LeO (impl_highCycles.j1 k y0 y1 y2 y3) (impl_highCycles.j1 (k + 1) y0 y1 y2 y3)) ∧ (∀ y0 y1 y2 y3, LeO (impl_highCycles.j2 k y0 y1 y2 y3) (impl_highCycles.j2 (k + 1) y0 y1 y2 y3))
 | 0 => ⟨fun _ _ _ _ r h => by simp [impl_highCycles.j0] at h, fun _ _ _ _ r h => by simp [impl_highCycles.j1] at h, fun _ _ _ _ r h => by simp [impl_highCycles.j2] at h⟩
 | k + 1 => by
  obtain ⟨ih0, ih1, ih2⟩ := impl_highCycles.mono_l k
  refine ⟨?_, ?_, ?_⟩
  ·intro y0 y1 y2 y3
   unfold impl_highCycles.j0
   repeat' first
   | (with_reducible first | exact ih0 _ _ _ _ | exact ih1 _ _ _ _ | exact ih2 _ _ _ _ | exact LeO.refl _ | exact LeO.none _ | refine LeO.ite ?_ ?_ | refine LeO.bind ?_ (fun _ => ?_))
   | exact ih0 _ _ _ _
   | exact ih1 _ _ _ _
   | exact ih2 _ _ _ _
   | exact LeO.none _
   | refine LeO.ite ?_ ?_
   | refine LeO.bind ?_ (fun _ => ?_)
  ·intro y0 y1 y2 y3
   unfold impl_highCycles.j1
   repeat' first
   | (with_reducible first | exact ih0 _ _ _ _ | exact ih1 _ _ _ _ | exact ih2 _ _ _ _ | exact LeO.refl _ | exact LeO.none _ | refine LeO.ite ?_ ?_ | refine LeO.bind ?_ (fun _ => ?_))
   | exact ih0 _ _ _ _
   | exact ih1 _ _ _ _
   | exact ih2 _ _ _ _
   | exact LeO.none _
   | refine LeO.ite ?_ ?_
   | refine LeO.bind ?_ (fun _ => ?_)
  ·intro y0 y1 y2 y3
   unfold impl_highCycles.j2
   repeat' first
   | (with_reducible first | exact ih0 _ _ _ _ | exact ih1 _ _ _ _ | exact ih2 _ _ _ _ | exact LeO.refl _ | exact LeO.none _ | refine LeO.ite ?_ ?_ | refine LeO.bind ?_ (fun _ => ?_))
   | exact ih0 _ _ _ _
   | exact ih1 _ _ _ _
   | exact ih2 _ _ _ _
   | exact LeO.none _
   | refine LeO.ite ?_ ?_
   | refine LeO.bind ?_ (fun _ => ?_)
theorem impl_highCycles.mono : ∀ a0 a1 a2 k, LeO (impl_highCycles.f k a0 a1 a2) (impl_highCycles.f (k + 1) a0 a1 a2) := by
 intro a0 a1 a2 k
 obtain ⟨ih0, ih1, ih2⟩ := impl_highCycles.mono_l k
 unfold impl_highCycles.f
 repeat' first
   | (with_reducible first | exact ih0 _ _ _ _ | exact ih1 _ _ _ _ | exact ih2 _ _ _ _ | exact LeO.refl _ | exact LeO.none _ | refine LeO.ite ?_ ?_ | refine LeO.bind ?_ (fun _ => ?_))
   | exact ih0 _ _ _ _
   | exact ih1 _ _ _ _
   | exact ih2 _ _ _ _
   | exact LeO.none _
   | refine LeO.ite ?_ ?_
   | refine LeO.bind ?_ (fun _ => ?_)
theorem impl_highCycles.calls (k : Nat) (a0 : Int) (a1 : Int) (a2 : Bool) (r : Int) (w : World) (h : impl_highCycles.f k a0 a1 a2 = some r) :
  Calls Tryz.prog 50 #[.int .i64 a0, .int .i64 a1, .bool a2] w fun e w' => e = .returned (.int .i64 r) ∧ Below w.heap.size w w' := by
 have HB := Aside0.mk (Below.refl w.heap.size w)
 have H : (if a1 = 0 then (impl_highCycles.j0 k a0 a1 a2 (decide (a0 < 4))) else (impl_highCycles.j0 k a0 a1 a2 false)) = some r := h
 clear h
 have HC4 := Aside0.mk H
 clear H
 go_enter Tryz.func50, Tryz.ntmps50
 go_upto_region 1 with (fail)
 go_cut [7] (fun v7 wc => ∃ (kq : Nat) (x7_3 : Bool), v7 = .bool x7_3 ∧ Aside0 (impl_highCycles.j0 kq a0 a1 a2 x7_3 = some r) ∧ Aside0 (kq ≤ k) ∧ Aside0 (Below w.heap.size w wc))
 case first =>
  have H := HC4.out
  clear HC4
  by_cases c5 : a1 = 0
  ·rw [if_pos c5] at H
   have c5b0 : (a1 == 0) = true := beq_iff_eq.mpr c5
   have c5b1 : (a1 != 0) = false := bne_eq_false_iff_eq.mpr c5
   clear c5
   (first | rw [c5b0] | (simp only [i64_w, i32_w]; rw [c5b0]) | skip)
   have H' := Aside0.mk H
   clear H
   go_wp2
   go_meet
   case rel => exact ⟨_, (decide (a0 < 4)), q29_, H', ⟨q56_⟩, ⟨q23_⟩⟩
  ·rw [if_neg c5] at H
   have c5b0 : (a1 == 0) = false := beq_eq_false_iff_ne.mpr c5
   have c5b1 : (a1 != 0) = true := bne_iff_ne.mpr c5
   (first | rw [c5b0] | (simp only [i64_w, i32_w]; rw [c5b0]) | skip)
   have H' := Aside0.mk H
   clear H
   go_wp2
   go_meet
   case rel => exact ⟨_, (false), q29_, H', ⟨q56_⟩, ⟨q23_⟩⟩
 case rest =>
  clear HC4
  try clear p2
  try clear c5
  try clear c5b0
  try clear c5b1
  obtain ⟨kq, x7_3, rfl, HA, HJ3, HB⟩ := hcut
  cases kq with
  | zero => exact absurd HA.out (by simp [impl_highCycles.j0])
  | succ kj3 =>
   have H := HA.out
   clear HA
   simp only [impl_highCycles.j0] at H
   by_cases c6 : x7_3 = true
   ·subst c6
    replace H : ((impl_either.f a2 5 2).bind fun t276 => (some t276)) = some r := by rw [if_pos rfl] at H; exact H
    replace H := Option.bind_eq_some_iff.mp H
    obtain ⟨t276, A70, H⟩ := H
    have A7 := Aside0.mk A70
    clear A70
    obtain rfl := Option.some.inj H
    go_wp2_with (first | ((with_reducible refine gate_callee (f := 48) rfl ?_); refine goesL_ (some 15) rfl rfl Tryz.func48 (by kernel_rfl) rfl #[.bool a2, .int .i64 5, .int .i64 2] rfl q22_ ?_; (with_reducible refine (impl_either.calls a2 5 2 t276 _ A7.out).mono ?_); rintro e w' ⟨rfl, ⟨nd, rfl⟩⟩; refine ⟨_, rfl, ?_⟩))
    go_ret
    exact ⟨q25_, q23_⟩
   ·replace c6 := Bool.eq_false_iff.mpr c6
    subst c6
    replace H : (if a1 = 0 then ((some (([3, 4, 3, 3] : List Int) : List Int)).bind fun y277 => (if 0 ≤ (wrap64 (a0 - 4)) then (if (wrap64 (a0 - 4)) < (y277.length : Int) then (some (rd y277 (wrap64 (a0 - 4)))) else (none)) else (none))) else (if a1 = 1 then (impl_highCycles.j1 kj3 a0 a1 a2 ((Int.tmod a0 2) == 0)) else (impl_highCycles.j1 kj3 a0 a1 a2 false))) = some r := by rw [if_neg (show ¬ (false = true) by decide)] at H; exact H
    by_cases c8 : a1 = 0
    ·rw [if_pos c8] at H
     have c8b0 : (a1 == 0) = true := beq_iff_eq.mpr c8
     have c8b1 : (a1 != 0) = false := bne_eq_false_iff_eq.mpr c8
     clear c8
     obtain ⟨y277, hy277⟩ : ∃ y_ : List Int, y_ = (([3, 4, 3, 3] : List Int)) := ⟨_, rfl⟩
     replace H : (if 0 ≤ (wrap64 (a0 - 4)) then (if (wrap64 (a0 - 4)) < (y277.length : Int) then (some (rd y277 (wrap64 (a0 - 4)))) else (none)) else (none)) = some r := by first | (rw [hy277]; with_reducible exact H) | (have H2_ := (Option.bind_some _ _).symm.trans H; rw [hy277]; with_reducible exact H2_) | (have H2_ := (Option.bind_some _ _).symm.trans H; with_reducible exact H2_) | with_reducible exact H | (rw [hy277]; exact H) | exact H
     have Ny277 := Aside0.mk hy277
     clear hy277
     obtain ⟨ji9, hji9⟩ : ∃ j_ : Int, (wrap64 (a0 - 4)) = j_ := ⟨_, rfl⟩
     replace H : (if 0 ≤ (ji9) then (if (ji9) < (y277.length : Int) then (some (rd y277 (ji9))) else (none)) else (none)) = some r := by first | (rw [hji9] at H; exact H) | (simp only [hji9] at H ⊢; exact H)
     have hji9w : (IntKind.i64.wrap (a0 - 4)) = ji9 := (i64_w _).trans hji9
     by_cases c10 : 0 ≤ (ji9)
     ·rw [if_pos c10] at H
      have c10b0 : decide (0 ≤ (ji9)) = true := decide_eq_true c10
      clear c10
      by_cases c11 : (ji9) < (y277.length : Int)
      ·rw [if_pos c11] at H
       have c11b0 : decide ((ji9) < (y277.length : Int)) = true := decide_eq_true c11
       clear c11
       obtain rfl := Option.some.inj H
       go_wp2_with (first | ((with_reducible refine gate_dst (N := 19) rfl ?_); refine Kd.R_lit (Kd.int .i64) _ 2 ?hg (N := 19) ?hd (xs := ([3, 4, 3, 3] : List Int)) (inner := [.int .i64 3, .int .i64 4, .int .i64 3, .int .i64 3]) (ok := fun _ => True) (okp := fun _ => True) ?hr ?hp (fun _ hk => hk) trivial (Below.refl _ _) (Nat.le_refl _) (by simp) ?_; (case hd => rfl); (case hg => rfl); (case hr => exact q73_); (case hp => exact q65_); intro v278 w12 ho13 hb hg_ hnew_; clear hg_ hnew_; (first | rw [← Ny277.out] at ho13 | (simp only [Int.reduceToNat] at ho13; rw [← Ny277.out] at ho13)); have n0_ := Aside0.mk (Kd.R_lower ho13 (below_size q23_)); have n1_ := Aside0.mk (below_step q23_ hb); clear HB; have HO279 := n0_; have HB := n1_; clear n0_ n1_; clear hb ho13; obtain ⟨Ao14, co14, eo14⟩ := Kd.R_slice HO279.out; subst eo14; have p280 : 0 ≤ ((ji9) : Int) := of_decide_eq_true q44_; have q280 : (ji9) < (y277.length : Int) := of_decide_eq_true q44_; obtain ⟨ad280, e280, hx280_0⟩ := Kd.at_int (Kd.R_reads' HO279.out).2.2 (ji9) p280 q280; cases e280; replace p280 := eq_true p280; replace q280 := eq_true q280))
       go_ret
       exact ⟨by first | rfl | (simp [errW_none, errW_some] <;> rfl) | (simp only [← hji9]; first | rfl | (simp [errW_none, errW_some] <;> rfl)) | (simp [*, errW_none, errW_some] <;> rfl) | (exfalso; simp_all; done), q23_⟩
      ·rw [if_neg c11] at H
       exact absurd H (by simp)
     ·rw [if_neg c10] at H
      exact absurd H (by simp)
    ·rw [if_neg c8] at H
     have c8b0 : (a1 == 0) = false := beq_eq_false_iff_ne.mpr c8
     have c8b1 : (a1 != 0) = true := bne_iff_ne.mpr c8
     have HC15 := Aside0.mk H
     clear H
     go_upto_region 5 with (fail)
     go_cut [24] (fun v24 wc => ∃ (kq : Nat) (x24_14 : Bool), v24 = .bool x24_14 ∧ Aside0 (impl_highCycles.j1 kq a0 a1 a2 x24_14 = some r) ∧ Aside0 (kq ≤ kj3) ∧ Aside0 (Below w.heap.size w wc))
     case first =>
      have H := HC15.out
      clear HC15
      by_cases c16 : a1 = 1
      ·rw [if_pos c16] at H
       have c16b0 : (a1 == 1) = true := beq_iff_eq.mpr c16
       have c16b1 : (a1 != 1) = false := bne_eq_false_iff_eq.mpr c16
       clear c16
       (first | rw [c16b0] | (simp only [i64_w, i32_w]; rw [c16b0]) | skip)
       have H' := Aside0.mk H
       clear H
       go_wp2
       go_meet
       case rel => exact ⟨_, (((Int.tmod a0 2) == 0)), q29_, H', ⟨by have := HJ3.out; first | omega | exact Nat.le_refl _⟩, ⟨q23_⟩⟩
      ·rw [if_neg c16] at H
       have c16b0 : (a1 == 1) = false := beq_eq_false_iff_ne.mpr c16
       have c16b1 : (a1 != 1) = true := bne_iff_ne.mpr c16
       (first | rw [c16b0] | (simp only [i64_w, i32_w]; rw [c16b0]) | skip)
       have H' := Aside0.mk H
       clear H
       go_wp2
       go_meet
       case rel => exact ⟨_, (false), q29_, H', ⟨by have := HJ3.out; first | omega | exact Nat.le_refl _⟩, ⟨q23_⟩⟩
     case rest =>
      clear HC15
      try clear c1
      try clear p2 p2
      try clear q2
      try clear hx2
      try clear c4
      try clear c5
      try clear c5b0
      try clear c5b1
      try clear c6
      try clear p6
      try clear c8
      try clear c8b0
      try clear c8b1
      try clear c10
      try clear c10b0
      try clear c11
      try clear c11b0
      try clear c16
      try clear c16b0
      try clear c16b1
      try clear hx280_0
      try clear p280
      try clear q280
      obtain ⟨kq, x24_14, rfl, HA, HJ14, HB⟩ := hcut
      cases kq with
      | zero => exact absurd HA.out (by simp [impl_highCycles.j1])
      | succ kj14 =>
       have H := HA.out
       clear HA
       simp only [impl_highCycles.j1] at H
       by_cases c17 : x24_14 = true
       ·subst c17
        replace H : (some 3) = some r := by rw [if_pos rfl] at H; exact H
        obtain rfl := Option.some.inj H
        go_wp2
        go_ret
        exact ⟨q25_, q23_⟩
       ·replace c17 := Bool.eq_false_iff.mpr c17
        subst c17
        replace H : (if a1 = 1 then ((some (([4, 4, 1, 2] : List Int) : List Int)).bind fun y281 => (if 0 ≤ (wrap64 (Int.tdiv a0 2)) then (if (wrap64 (Int.tdiv a0 2)) < (y281.length : Int) then (some (rd y281 (wrap64 (Int.tdiv a0 2)))) else (none)) else (none))) else (if a1 = 2 then (impl_highCycles.j2 kj14 a0 a1 a2 (decide (a0 < 4))) else (impl_highCycles.j2 kj14 a0 a1 a2 false))) = some r := by rw [if_neg (show ¬ (false = true) by decide)] at H; exact H
        by_cases c18 : a1 = 1
        ·rw [if_pos c18] at H
         have c18b0 : (a1 == 1) = true := beq_iff_eq.mpr c18
         have c18b1 : (a1 != 1) = false := bne_eq_false_iff_eq.mpr c18
         clear c18
         obtain ⟨y281, hy281⟩ : ∃ y_ : List Int, y_ = (([4, 4, 1, 2] : List Int)) := ⟨_, rfl⟩
         replace H : (if 0 ≤ (wrap64 (Int.tdiv a0 2)) then (if (wrap64 (Int.tdiv a0 2)) < (y281.length : Int) then (some (rd y281 (wrap64 (Int.tdiv a0 2)))) else (none)) else (none)) = some r := by first | (rw [hy281]; with_reducible exact H) | (have H2_ := (Option.bind_some _ _).symm.trans H; rw [hy281]; with_reducible exact H2_) | (have H2_ := (Option.bind_some _ _).symm.trans H; with_reducible exact H2_) | with_reducible exact H | (rw [hy281]; exact H) | exact H
         have Ny281 := Aside0.mk hy281
         clear hy281
         obtain ⟨ji19, hji19⟩ : ∃ j_ : Int, (wrap64 (Int.tdiv a0 2)) = j_ := ⟨_, rfl⟩
         replace H : (if 0 ≤ (ji19) then (if (ji19) < (y281.length : Int) then (some (rd y281 (ji19))) else (none)) else (none)) = some r := by first | (rw [hji19] at H; exact H) | (simp only [hji19] at H ⊢; exact H)
         have hji19w : (IntKind.i64.wrap (Int.tdiv a0 2)) = ji19 := (i64_w _).trans hji19
         by_cases c20 : 0 ≤ (ji19)
         ·rw [if_pos c20] at H
          have c20b0 : decide (0 ≤ (ji19)) = true := decide_eq_true c20
          clear c20
          by_cases c21 : (ji19) < (y281.length : Int)
          ·rw [if_pos c21] at H
           have c21b0 : decide ((ji19) < (y281.length : Int)) = true := decide_eq_true c21
           clear c21
           obtain rfl := Option.some.inj H
           go_wp2_with (first | ((with_reducible refine gate_dst (N := 35) rfl ?_); refine Kd.R_lit (Kd.int .i64) _ 2 ?hg (N := 35) ?hd (xs := ([4, 4, 1, 2] : List Int)) (inner := [.int .i64 4, .int .i64 4, .int .i64 1, .int .i64 2]) (ok := fun _ => True) (okp := fun _ => True) ?hr ?hp (fun _ hk => hk) trivial (Below.refl _ _) (Nat.le_refl _) (by simp) ?_; (case hd => rfl); (case hg => rfl); (case hr => exact q73_); (case hp => exact q66_); intro v282 w22 ho23 hb hg_ hnew_; clear hg_ hnew_; (first | rw [← Ny281.out] at ho23 | (simp only [Int.reduceToNat] at ho23; rw [← Ny281.out] at ho23)); have n0_ := Aside0.mk (Kd.R_lower ho23 (below_size q23_)); have n1_ := Aside0.mk (below_step q23_ hb); clear HB; have HO283 := n0_; have HB := n1_; clear n0_ n1_; clear hb ho23; obtain ⟨Ao24, co24, eo24⟩ := Kd.R_slice HO283.out; subst eo24; have p284 : 0 ≤ ((ji19) : Int) := of_decide_eq_true q44_; have q284 : (ji19) < (y281.length : Int) := of_decide_eq_true q44_; obtain ⟨ad284, e284, hx284_0⟩ := Kd.at_int (Kd.R_reads' HO283.out).2.2 (ji19) p284 q284; cases e284; replace p284 := eq_true p284; replace q284 := eq_true q284))
           go_ret
           exact ⟨by first | rfl | (simp [errW_none, errW_some] <;> rfl) | (simp only [← hji19]; first | rfl | (simp [errW_none, errW_some] <;> rfl)) | (simp [*, errW_none, errW_some] <;> rfl) | (exfalso; simp_all; done), q23_⟩
          ·rw [if_neg c21] at H
           exact absurd H (by simp)
         ·rw [if_neg c20] at H
          exact absurd H (by simp)
        ·rw [if_neg c18] at H
         have c18b0 : (a1 == 1) = false := beq_eq_false_iff_ne.mpr c18
         have c18b1 : (a1 != 1) = true := bne_iff_ne.mpr c18
         have HC25 := Aside0.mk H
         clear H
         go_upto_region 9 with (fail)
         go_cut [40] (fun v40 wc => ∃ (kq : Nat) (x40_24 : Bool), v40 = .bool x40_24 ∧ Aside0 (impl_highCycles.j2 kq a0 a1 a2 x40_24 = some r) ∧ Aside0 (kq ≤ kj14) ∧ Aside0 (Below w.heap.size w wc))
         case first =>
          have H := HC25.out
          clear HC25
          by_cases c26 : a1 = 2
          ·rw [if_pos c26] at H
           have c26b0 : (a1 == 2) = true := beq_iff_eq.mpr c26
           have c26b1 : (a1 != 2) = false := bne_eq_false_iff_eq.mpr c26
           clear c26
           (first | rw [c26b0] | (simp only [i64_w, i32_w]; rw [c26b0]) | skip)
           have H' := Aside0.mk H
           clear H
           go_wp2
           go_meet
           case rel => exact ⟨_, (decide (a0 < 4)), q29_, H', ⟨by have := HJ3.out; have := HJ14.out; first | omega | exact Nat.le_refl _⟩, ⟨q23_⟩⟩
          ·rw [if_neg c26] at H
           have c26b0 : (a1 == 2) = false := beq_eq_false_iff_ne.mpr c26
           have c26b1 : (a1 != 2) = true := bne_iff_ne.mpr c26
           (first | rw [c26b0] | (simp only [i64_w, i32_w]; rw [c26b0]) | skip)
           have H' := Aside0.mk H
           clear H
           go_wp2
           go_meet
           case rel => exact ⟨_, (false), q29_, H', ⟨by have := HJ3.out; have := HJ14.out; first | omega | exact Nat.le_refl _⟩, ⟨q23_⟩⟩
         case rest =>
          clear HC25
          try clear c1
          try clear c2
          try clear p2 p2
          try clear q2 q2
          try clear hx2
          try clear c4
          try clear c5
          try clear c5b0
          try clear c5b1
          try clear c6
          try clear p6 p6
          try clear c8
          try clear c8b0
          try clear c8b1
          try clear c10
          try clear c10b0
          try clear c11
          try clear c11b0
          try clear c16
          try clear c16b0
          try clear c16b1
          try clear c17
          try clear c18
          try clear c18b0
          try clear c18b1
          try clear c20
          try clear c20b0
          try clear c21
          try clear c21b0
          try clear c26
          try clear c26b0
          try clear c26b1
          try clear hx280_0
          try clear hx284_0
          try clear p280
          try clear p284
          try clear q280
          try clear q284
          obtain ⟨kq, x40_24, rfl, HA, HJ24, HB⟩ := hcut
          cases kq with
          | zero => exact absurd HA.out (by simp [impl_highCycles.j2])
          | succ kj24 =>
           have H := HA.out
           clear HA
           simp only [impl_highCycles.j2] at H
           by_cases c27 : x40_24 = true
           ·subst c27
            replace H : ((impl_either.f a2 4 3).bind fun t285 => (some t285)) = some r := by rw [if_pos rfl] at H; exact H
            replace H := Option.bind_eq_some_iff.mp H
            obtain ⟨t285, A280, H⟩ := H
            have A28 := Aside0.mk A280
            clear A280
            obtain rfl := Option.some.inj H
            go_wp2_with (first | ((with_reducible refine gate_callee (f := 48) rfl ?_); refine goesL_ (some 48) rfl rfl Tryz.func48 (by kernel_rfl) rfl #[.bool a2, .int .i64 4, .int .i64 3] rfl q22_ ?_; (with_reducible refine (impl_either.calls a2 4 3 t285 _ A28.out).mono ?_); rintro e w' ⟨rfl, ⟨nd, rfl⟩⟩; refine ⟨_, rfl, ?_⟩))
            go_ret
            exact ⟨q25_, q23_⟩
           ·replace c27 := Bool.eq_false_iff.mpr c27
            subst c27
            replace H : (if a1 = 2 then ((some (([2, 4, 2, 4] : List Int) : List Int)).bind fun y286 => (if 0 ≤ (wrap64 (a0 - 4)) then (if (wrap64 (a0 - 4)) < (y286.length : Int) then (some (rd y286 (wrap64 (a0 - 4)))) else (none)) else (none))) else (if a1 = 3 then ((impl_either.f (a0 == 0) 4 1).bind fun t290 => (some t290)) else (if a1 = 4 then ((impl_either.f a2 6 3).bind fun t291 => (some t291)) else (if a1 = 5 then ((impl_either.f ((Int.tmod a0 2) == 0) 4 6).bind fun t292 => (some t292)) else (if a1 = 6 then (some 2) else (some 4)))))) = some r := by rw [if_neg (show ¬ (false = true) by decide)] at H; exact H
            by_cases c29 : a1 = 2
            ·rw [if_pos c29] at H
             have c29b0 : (a1 == 2) = true := beq_iff_eq.mpr c29
             have c29b1 : (a1 != 2) = false := bne_eq_false_iff_eq.mpr c29
             clear c29
             obtain ⟨y286, hy286⟩ : ∃ y_ : List Int, y_ = (([2, 4, 2, 4] : List Int)) := ⟨_, rfl⟩
             replace H : (if 0 ≤ (wrap64 (a0 - 4)) then (if (wrap64 (a0 - 4)) < (y286.length : Int) then (some (rd y286 (wrap64 (a0 - 4)))) else (none)) else (none)) = some r := by first | (rw [hy286]; with_reducible exact H) | (have H2_ := (Option.bind_some _ _).symm.trans H; rw [hy286]; with_reducible exact H2_) | (have H2_ := (Option.bind_some _ _).symm.trans H; with_reducible exact H2_) | with_reducible exact H | (rw [hy286]; exact H) | exact H
             have Ny286 := Aside0.mk hy286
             clear hy286
             obtain ⟨ji30, hji30⟩ : ∃ j_ : Int, (wrap64 (a0 - 4)) = j_ := ⟨_, rfl⟩
             replace H : (if 0 ≤ (ji30) then (if (ji30) < (y286.length : Int) then (some (rd y286 (ji30))) else (none)) else (none)) = some r := by first | (rw [hji30] at H; exact H) | (simp only [hji30] at H ⊢; exact H)
             have hji30w : (IntKind.i64.wrap (a0 - 4)) = ji30 := (i64_w _).trans hji30
             by_cases c31 : 0 ≤ (ji30)
             ·rw [if_pos c31] at H
              have c31b0 : decide (0 ≤ (ji30)) = true := decide_eq_true c31
              clear c31
              by_cases c32 : (ji30) < (y286.length : Int)
              ·rw [if_pos c32] at H
               have c32b0 : decide ((ji30) < (y286.length : Int)) = true := decide_eq_true c32
               clear c32
               obtain rfl := Option.some.inj H
               go_wp2_with (first | ((with_reducible refine gate_dst (N := 52) rfl ?_); refine Kd.R_lit (Kd.int .i64) _ 2 ?hg (N := 52) ?hd (xs := ([2, 4, 2, 4] : List Int)) (inner := [.int .i64 2, .int .i64 4, .int .i64 2, .int .i64 4]) (ok := fun _ => True) (okp := fun _ => True) ?hr ?hp (fun _ hk => hk) trivial (Below.refl _ _) (Nat.le_refl _) (by simp) ?_; (case hd => rfl); (case hg => rfl); (case hr => exact q73_); (case hp => exact q67_); intro v287 w33 ho34 hb hg_ hnew_; clear hg_ hnew_; (first | rw [← Ny286.out] at ho34 | (simp only [Int.reduceToNat] at ho34; rw [← Ny286.out] at ho34)); have n0_ := Aside0.mk (Kd.R_lower ho34 (below_size q23_)); have n1_ := Aside0.mk (below_step q23_ hb); clear HB; have HO288 := n0_; have HB := n1_; clear n0_ n1_; clear hb ho34; obtain ⟨Ao35, co35, eo35⟩ := Kd.R_slice HO288.out; subst eo35; have p289 : 0 ≤ ((ji30) : Int) := of_decide_eq_true q44_; have q289 : (ji30) < (y286.length : Int) := of_decide_eq_true q44_; obtain ⟨ad289, e289, hx289_0⟩ := Kd.at_int (Kd.R_reads' HO288.out).2.2 (ji30) p289 q289; cases e289; replace p289 := eq_true p289; replace q289 := eq_true q289))
               go_ret
               exact ⟨q8_, q23_⟩
              ·rw [if_neg c32] at H
               exact absurd H (by simp)
             ·rw [if_neg c31] at H
              exact absurd H (by simp)
            ·rw [if_neg c29] at H
             have c29b0 : (a1 == 2) = false := beq_eq_false_iff_ne.mpr c29
             have c29b1 : (a1 != 2) = true := bne_iff_ne.mpr c29
             by_cases c36 : a1 = 3
             ·rw [if_pos c36] at H
              have c36b0 : (a1 == 3) = true := beq_iff_eq.mpr c36
              have c36b1 : (a1 != 3) = false := bne_eq_false_iff_eq.mpr c36
              clear c36
              replace H := Option.bind_eq_some_iff.mp H
              obtain ⟨t290, A370, H⟩ := H
              have A37 := Aside0.mk A370
              clear A370
              obtain rfl := Option.some.inj H
              go_wp2_with (first | ((with_reducible refine gate_callee (f := 48) rfl ?_); refine goesL_ (some 62) rfl rfl Tryz.func48 (by kernel_rfl) rfl #[.bool (a0 == 0), .int .i64 4, .int .i64 1] rfl q22_ ?_; (with_reducible refine (impl_either.calls (a0 == 0) 4 1 t290 _ A37.out).mono ?_); rintro e w' ⟨rfl, ⟨nd, rfl⟩⟩; refine ⟨_, rfl, ?_⟩))
              go_ret
              exact ⟨q25_, q23_⟩
             ·rw [if_neg c36] at H
              have c36b0 : (a1 == 3) = false := beq_eq_false_iff_ne.mpr c36
              have c36b1 : (a1 != 3) = true := bne_iff_ne.mpr c36
              by_cases c38 : a1 = 4
              ·rw [if_pos c38] at H
               have c38b0 : (a1 == 4) = true := beq_iff_eq.mpr c38
               have c38b1 : (a1 != 4) = false := bne_eq_false_iff_eq.mpr c38
               clear c38
               replace H := Option.bind_eq_some_iff.mp H
               obtain ⟨t291, A390, H⟩ := H
               have A39 := Aside0.mk A390
               clear A390
               obtain rfl := Option.some.inj H
               go_wp2_with (first | ((with_reducible refine gate_callee (f := 48) rfl ?_); refine goesL_ (some 67) rfl rfl Tryz.func48 (by kernel_rfl) rfl #[.bool a2, .int .i64 6, .int .i64 3] rfl q22_ ?_; (with_reducible refine (impl_either.calls a2 6 3 t291 _ A39.out).mono ?_); rintro e w' ⟨rfl, ⟨nd, rfl⟩⟩; refine ⟨_, rfl, ?_⟩))
               go_ret
               exact ⟨q25_, q23_⟩
              ·rw [if_neg c38] at H
               have c38b0 : (a1 == 4) = false := beq_eq_false_iff_ne.mpr c38
               have c38b1 : (a1 != 4) = true := bne_iff_ne.mpr c38
               by_cases c40 : a1 = 5
               ·rw [if_pos c40] at H
                have c40b0 : (a1 == 5) = true := beq_iff_eq.mpr c40
                have c40b1 : (a1 != 5) = false := bne_eq_false_iff_eq.mpr c40
                clear c40
                replace H := Option.bind_eq_some_iff.mp H
                obtain ⟨t292, A410, H⟩ := H
                have A41 := Aside0.mk A410
                clear A410
                obtain rfl := Option.some.inj H
                go_wp2_with (first | ((with_reducible refine gate_callee (f := 48) rfl ?_); refine goesL_ (some 74) rfl rfl Tryz.func48 (by kernel_rfl) rfl #[.bool ((Int.tmod a0 2) == 0), .int .i64 4, .int .i64 6] rfl q22_ ?_; (with_reducible refine (impl_either.calls ((Int.tmod a0 2) == 0) 4 6 t292 _ A41.out).mono ?_); rintro e w' ⟨rfl, ⟨nd, rfl⟩⟩; refine ⟨_, rfl, ?_⟩))
                go_ret
                exact ⟨q25_, q23_⟩
               ·rw [if_neg c40] at H
                have c40b0 : (a1 == 5) = false := beq_eq_false_iff_ne.mpr c40
                have c40b1 : (a1 != 5) = true := bne_iff_ne.mpr c40
                by_cases c42 : a1 = 6
                ·rw [if_pos c42] at H
                 have c42b0 : (a1 == 6) = true := beq_iff_eq.mpr c42
                 have c42b1 : (a1 != 6) = false := bne_eq_false_iff_eq.mpr c42
                 clear c42
                 obtain rfl := Option.some.inj H
                 go_wp2
                 go_ret
                 exact ⟨q25_, q23_⟩
                ·rw [if_neg c42] at H
                 have c42b0 : (a1 == 6) = false := beq_eq_false_iff_ne.mpr c42
                 have c42b1 : (a1 != 6) = true := bne_iff_ne.mpr c42
                 obtain rfl := Option.some.inj H
                 go_wp2
                 go_ret
                 exact ⟨q25_, q23_⟩
def impl_CyclesOf.j0 : Nat → Int → Bool → Bool → Int → Int → Int → Bool → Option (Int)
 | 0, _, _, _, _, _, _, _ => none
 | k + 1, x0, x1, x2, x7, x8, x9, x21 => if x21 = true then (some 2) else (if x1 = true then ((impl_either.f (x7 == 1) 3 4).bind fun t294 => (some t294)) else (if x7 = 0 then ((impl_lowCycles.f k x8 x9 x2).bind fun t295 => (some t295)) else (if x7 = 3 then ((impl_highCycles.f k x8 x9 x2).bind fun t296 => (some t296)) else (if x0 = 118 then (some 1) else (if x7 = 2 then ((impl_either.f (x9 == 6) 2 1).bind fun t297 => (some t297)) else (if x8 = 6 then ((impl_either.f true 2 1).bind fun t298 => (some t298)) else ((impl_either.f (x9 == 6) 2 1).bind fun t299 => (some t299))))))))
def impl_CyclesOf.f (k : Nat) (a0 : Int) (a1 : Bool) (a2 : Bool) : Option (Int) := (impl_TemplateOf.f k a0 a1).bind fun t293 => (if t293.toList = ([] : List UInt8) then (some 0) else (if a1 = true then (impl_CyclesOf.j0 k a0 a1 a2 (wrap64 (Int.tdiv a0 64)) (Int.tmod (wrap64 (Int.tdiv a0 8)) 8) (Int.tmod a0 8) ((Int.tmod a0 8) != 6)) else (impl_CyclesOf.j0 k a0 a1 a2 (wrap64 (Int.tdiv a0 64)) (Int.tmod (wrap64 (Int.tdiv a0 8)) 8) (Int.tmod a0 8) false)))
theorem impl_CyclesOf.mono_l : ∀ k, (∀ y0 y1 y2 y3 y4 y5 y6, LeO (impl_CyclesOf.j0 k y0 y1 y2 y3 y4 y5 y6) (impl_CyclesOf.j0 (k + 1) y0 y1 y2 y3 y4 y5 y6))
 | 0 => fun _ _ _ _ _ _ _ r h => by simp [impl_CyclesOf.j0] at h
 | k + 1 => by
  have ih0 := impl_CyclesOf.mono_l k
  ·intro y0 y1 y2 y3 y4 y5 y6
   unfold impl_CyclesOf.j0
   repeat' first
   | (with_reducible first | exact ih0 _ _ _ _ _ _ _ | exact impl_TemplateOf.mono _ _ _ | exact impl_highCycles.mono _ _ _ _ | exact impl_lowCycles.mono _ _ _ _ | exact LeO.refl _ | exact LeO.none _ | refine LeO.ite ?_ ?_ | refine LeO.bind ?_ (fun _ => ?_))
   | exact ih0 _ _ _ _ _ _ _
   | exact impl_TemplateOf.mono _ _ _
   | exact impl_highCycles.mono _ _ _ _
   | exact impl_lowCycles.mono _ _ _ _
   | exact LeO.none _
   | refine LeO.ite ?_ ?_
   | refine LeO.bind ?_ (fun _ => ?_)
theorem impl_CyclesOf.mono : ∀ a0 a1 a2 k, LeO (impl_CyclesOf.f k a0 a1 a2) (impl_CyclesOf.f (k + 1) a0 a1 a2) := by
 intro a0 a1 a2 k
 have ih0 := impl_CyclesOf.mono_l k
 unfold impl_CyclesOf.f
 repeat' first
   | (with_reducible first | exact ih0 _ _ _ _ _ _ _ | exact impl_TemplateOf.mono _ _ _ | exact impl_highCycles.mono _ _ _ _ | exact impl_lowCycles.mono _ _ _ _ | exact LeO.refl _ | exact LeO.none _ | refine LeO.ite ?_ ?_ | refine LeO.bind ?_ (fun _ => ?_))
   | exact ih0 _ _ _ _ _ _ _
   | exact impl_TemplateOf.mono _ _ _
   | exact impl_highCycles.mono _ _ _ _
   | exact impl_lowCycles.mono _ _ _ _
   | exact LeO.none _
   | refine LeO.ite ?_ ?_
   | refine LeO.bind ?_ (fun _ => ?_)
theorem impl_CyclesOf.calls (k : Nat) (a0 : Int) (a1 : Bool) (a2 : Bool) (r : Int) (w : World) (h : impl_CyclesOf.f k a0 a1 a2 = some r) (hG : Go.Proofs.YtodlnnoekccmmaaGreatDoor.LibW.GL w := by first | exact hG | exact hG.below q1_ | exact hG.drewN _) :
  Calls Tryz.prog 14 #[.int .i64 a0, .bool a1, .bool a2] w fun e w' => e = .returned (.int .i64 r) ∧ Below w.heap.size w w' := by
 have HB := Aside0.mk (Below.refl w.heap.size w)
 have H : ((impl_TemplateOf.f k a0 a1).bind fun t293 => (if t293.toList = ([] : List UInt8) then (some 0) else (if a1 = true then (impl_CyclesOf.j0 k a0 a1 a2 (wrap64 (Int.tdiv a0 64)) (Int.tmod (wrap64 (Int.tdiv a0 8)) 8) (Int.tmod a0 8) ((Int.tmod a0 8) != 6)) else (impl_CyclesOf.j0 k a0 a1 a2 (wrap64 (Int.tdiv a0 64)) (Int.tmod (wrap64 (Int.tdiv a0 8)) 8) (Int.tmod a0 8) false)))) = some r := h
 clear h
 replace H := Option.bind_eq_some_iff.mp H
 obtain ⟨t293, A40, H⟩ := H
 have A4 := Aside0.mk A40
 clear A40
 by_cases c5 : t293.toList = ([] : List UInt8)
 ·rw [if_pos c5] at H
  have c5b0 : (t293.toList == ([] : List UInt8)) = true := beq_iff_eq.mpr c5
  have c5b1 : (t293.toList != ([] : List UInt8)) = false := bne_eq_false_iff_eq.mpr c5
  clear c5
  obtain rfl := Option.some.inj H
  go_enter Tryz.func14, Tryz.ntmps14
  go_wp2_with (first | ((with_reducible refine gate_callee (f := 46) rfl ?_); refine goesL_ (some 12) rfl rfl Tryz.func46 (by kernel_rfl) rfl #[.int .i64 a0, .bool a1] rfl q22_ ?_; (with_reducible refine (impl_TemplateOf.calls k a0 a1 t293 _ A4.out).mono ?_); rintro e w6 ⟨rfl, hb⟩; refine ⟨_, rfl, ?_⟩; replace HB := Aside0.mk (below_step q23_ hb); (try clear hb)))
  go_ret
  exact ⟨q25_, q23_⟩
 ·rw [if_neg c5] at H
  have c5b0 : (t293.toList == ([] : List UInt8)) = false := beq_eq_false_iff_ne.mpr c5
  have c5b1 : (t293.toList != ([] : List UInt8)) = true := bne_iff_ne.mpr c5
  have HC7 := Aside0.mk H
  clear H
  go_enter Tryz.func14, Tryz.ntmps14
  go_upto_region 4 with (first | ((with_reducible refine gate_callee (f := 46) rfl ?_); refine goesL_ (some 12) rfl rfl Tryz.func46 (by kernel_rfl) rfl #[.int .i64 a0, .bool a1] rfl q22_ ?_; (with_reducible refine (impl_TemplateOf.calls k a0 a1 t293 _ A4.out).mono ?_); rintro e w8 ⟨rfl, hb⟩; refine ⟨_, rfl, ?_⟩; replace HB := Aside0.mk (below_step q23_ hb); (try clear hb)))
  (try simp only [Act.put, List.setIfInBounds_toArray, List.set_cons_zero, List.set_cons_succ])
  go_cut [21] (fun v21 wc => ∃ (kq : Nat) (x21_6 : Bool), v21 = .bool x21_6 ∧ Aside0 (impl_CyclesOf.j0 kq a0 a1 a2 (wrap64 (Int.tdiv a0 64)) (Int.tmod (wrap64 (Int.tdiv a0 8)) 8) (Int.tmod a0 8) x21_6 = some r) ∧ Aside0 (kq ≤ k) ∧ Aside0 (Below w.heap.size w wc))
  case first =>
   have H := HC7.out
   clear HC7
   by_cases c9 : a1 = true
   ·subst c9
    replace H : (impl_CyclesOf.j0 k a0 true a2 (wrap64 (Int.tdiv a0 64)) (Int.tmod (wrap64 (Int.tdiv a0 8)) 8) (Int.tmod a0 8) ((Int.tmod a0 8) != 6)) = some r := by rw [if_pos rfl] at H; exact H
    have H' := Aside0.mk H
    clear H
    go_wp2
    go_meet
    case rel => exact ⟨_, (((Int.tmod a0 8) != 6)), q29_, H', ⟨q56_⟩, ⟨q23_⟩⟩
   ·replace c9 := Bool.eq_false_iff.mpr c9
    subst c9
    replace H : (impl_CyclesOf.j0 k a0 false a2 (wrap64 (Int.tdiv a0 64)) (Int.tmod (wrap64 (Int.tdiv a0 8)) 8) (Int.tmod a0 8) false) = some r := by rw [if_neg (show ¬ (false = true) by decide)] at H; exact H
    have H' := Aside0.mk H
    clear H
    go_wp2
    go_meet
    case rel => exact ⟨_, (false), q29_, H', ⟨q56_⟩, ⟨q23_⟩⟩
  case rest =>
   clear HC7
   try clear c1
   try clear p2
   try clear c4
   try clear c5
   try clear c5b0
   try clear c5b1
   try clear p6
   try clear c9
   obtain ⟨kq, x21_6, rfl, HA, HJ6, HB⟩ := hcut
   cases kq with
   | zero => exact absurd HA.out (by simp [impl_CyclesOf.j0])
   | succ kj6 =>
    have H := HA.out
    clear HA
    simp only [impl_CyclesOf.j0] at H
    by_cases c10 : x21_6 = true
    ·subst c10
     replace H : (some 2) = some r := by rw [if_pos rfl] at H; exact H
     obtain rfl := Option.some.inj H
     go_wp2
     go_ret
     exact ⟨q25_, q23_⟩
    ·replace c10 := Bool.eq_false_iff.mpr c10
     subst c10
     replace H : (if a1 = true then ((impl_either.f ((wrap64 (Int.tdiv a0 64)) == 1) 3 4).bind fun t294 => (some t294)) else (if (wrap64 (Int.tdiv a0 64)) = 0 then ((impl_lowCycles.f kj6 (Int.tmod (wrap64 (Int.tdiv a0 8)) 8) (Int.tmod a0 8) a2).bind fun t295 => (some t295)) else (if (wrap64 (Int.tdiv a0 64)) = 3 then ((impl_highCycles.f kj6 (Int.tmod (wrap64 (Int.tdiv a0 8)) 8) (Int.tmod a0 8) a2).bind fun t296 => (some t296)) else (if a0 = 118 then (some 1) else (if (wrap64 (Int.tdiv a0 64)) = 2 then ((impl_either.f ((Int.tmod a0 8) == 6) 2 1).bind fun t297 => (some t297)) else (if (Int.tmod (wrap64 (Int.tdiv a0 8)) 8) = 6 then ((impl_either.f true 2 1).bind fun t298 => (some t298)) else ((impl_either.f ((Int.tmod a0 8) == 6) 2 1).bind fun t299 => (some t299)))))))) = some r := by rw [if_neg (show ¬ (false = true) by decide)] at H; exact H
     by_cases c11 : a1 = true
     ·subst c11
      replace H : ((impl_either.f ((wrap64 (Int.tdiv a0 64)) == 1) 3 4).bind fun t294 => (some t294)) = some r := by rw [if_pos rfl] at H; exact H
      replace H := Option.bind_eq_some_iff.mp H
      obtain ⟨t294, A120, H⟩ := H
      have A12 := Aside0.mk A120
      clear A120
      obtain rfl := Option.some.inj H
      go_wp2_with (first | ((with_reducible refine gate_callee (f := 48) rfl ?_); refine goesL_ (some 31) rfl rfl Tryz.func48 (by kernel_rfl) rfl #[.bool ((wrap64 (Int.tdiv a0 64)) == 1), .int .i64 3, .int .i64 4] rfl (by (try simp only [List.map_toArray, List.map_cons, List.map_nil]); first | done | rfl | (simp only [List.length_drop, List.length_take]; rfl) | (refine Eq.trans (b := #[.bool (((Int.tdiv a0 64)) == 1), .int .i64 3, .int .i64 4]) rfl ?_; simp [wrap64] <;> omega)) ?_; (with_reducible refine (impl_either.calls ((wrap64 (Int.tdiv a0 64)) == 1) 3 4 t294 _ A12.out).mono ?_); rintro e w' ⟨rfl, ⟨nd, rfl⟩⟩; refine ⟨_, rfl, ?_⟩))
      go_ret
      exact ⟨q25_, q23_⟩
     ·replace c11 := Bool.eq_false_iff.mpr c11
      subst c11
      replace H : (if (wrap64 (Int.tdiv a0 64)) = 0 then ((impl_lowCycles.f kj6 (Int.tmod (wrap64 (Int.tdiv a0 8)) 8) (Int.tmod a0 8) a2).bind fun t295 => (some t295)) else (if (wrap64 (Int.tdiv a0 64)) = 3 then ((impl_highCycles.f kj6 (Int.tmod (wrap64 (Int.tdiv a0 8)) 8) (Int.tmod a0 8) a2).bind fun t296 => (some t296)) else (if a0 = 118 then (some 1) else (if (wrap64 (Int.tdiv a0 64)) = 2 then ((impl_either.f ((Int.tmod a0 8) == 6) 2 1).bind fun t297 => (some t297)) else (if (Int.tmod (wrap64 (Int.tdiv a0 8)) 8) = 6 then ((impl_either.f true 2 1).bind fun t298 => (some t298)) else ((impl_either.f ((Int.tmod a0 8) == 6) 2 1).bind fun t299 => (some t299))))))) = some r := by rw [if_neg (show ¬ (false = true) by decide)] at H; exact H
      by_cases c13 : (wrap64 (Int.tdiv a0 64)) = 0
      ·rw [if_pos c13] at H
       have c13b0 : ((wrap64 (Int.tdiv a0 64)) == 0) = true := beq_iff_eq.mpr c13
       have c13b1 : ((wrap64 (Int.tdiv a0 64)) != 0) = false := bne_eq_false_iff_eq.mpr c13
       clear c13
       replace H := Option.bind_eq_some_iff.mp H
       obtain ⟨t295, A140, H⟩ := H
       have A14 := Aside0.mk A140
       clear A140
       obtain rfl := Option.some.inj H
       go_wp2_with (first | ((with_reducible refine gate_callee (f := 49) rfl ?_); refine goesL_ (some 38) rfl rfl Tryz.func49 (by kernel_rfl) rfl #[.int .i64 (Int.tmod (wrap64 (Int.tdiv a0 8)) 8), .int .i64 (Int.tmod a0 8), .bool a2] rfl q0_ ?_; (with_reducible refine (impl_lowCycles.calls kj6 (Int.tmod (wrap64 (Int.tdiv a0 8)) 8) (Int.tmod a0 8) a2 t295 _ A14.out).mono ?_); rintro e w15 ⟨rfl, hb⟩; refine ⟨_, rfl, ?_⟩; replace HB := Aside0.mk (below_step q23_ hb); (try clear hb)))
       go_ret
       exact ⟨q25_, q23_⟩
      ·rw [if_neg c13] at H
       have c13b0 : ((wrap64 (Int.tdiv a0 64)) == 0) = false := beq_eq_false_iff_ne.mpr c13
       have c13b1 : ((wrap64 (Int.tdiv a0 64)) != 0) = true := bne_iff_ne.mpr c13
       by_cases c16 : (wrap64 (Int.tdiv a0 64)) = 3
       ·rw [if_pos c16] at H
        have c16b0 : ((wrap64 (Int.tdiv a0 64)) == 3) = true := beq_iff_eq.mpr c16
        have c16b1 : ((wrap64 (Int.tdiv a0 64)) != 3) = false := bne_eq_false_iff_eq.mpr c16
        clear c16
        replace H := Option.bind_eq_some_iff.mp H
        obtain ⟨t296, A170, H⟩ := H
        have A17 := Aside0.mk A170
        clear A170
        obtain rfl := Option.some.inj H
        go_wp2_with (first | ((with_reducible refine gate_callee (f := 50) rfl ?_); refine goesL_ (some 45) rfl rfl Tryz.func50 (by kernel_rfl) rfl #[.int .i64 (Int.tmod (wrap64 (Int.tdiv a0 8)) 8), .int .i64 (Int.tmod a0 8), .bool a2] rfl q0_ ?_; (with_reducible refine (impl_highCycles.calls kj6 (Int.tmod (wrap64 (Int.tdiv a0 8)) 8) (Int.tmod a0 8) a2 t296 _ A17.out).mono ?_); rintro e w18 ⟨rfl, hb⟩; refine ⟨_, rfl, ?_⟩; replace HB := Aside0.mk (below_step q23_ hb); (try clear hb)))
        go_ret
        exact ⟨q25_, q23_⟩
       ·rw [if_neg c16] at H
        have c16b0 : ((wrap64 (Int.tdiv a0 64)) == 3) = false := beq_eq_false_iff_ne.mpr c16
        have c16b1 : ((wrap64 (Int.tdiv a0 64)) != 3) = true := bne_iff_ne.mpr c16
        by_cases c19 : a0 = 118
        ·rw [if_pos c19] at H
         have c19b0 : (a0 == 118) = true := beq_iff_eq.mpr c19
         have c19b1 : (a0 != 118) = false := bne_eq_false_iff_eq.mpr c19
         clear c19
         obtain rfl := Option.some.inj H
         go_wp2
         go_ret
         exact ⟨q25_, q23_⟩
        ·rw [if_neg c19] at H
         have c19b0 : (a0 == 118) = false := beq_eq_false_iff_ne.mpr c19
         have c19b1 : (a0 != 118) = true := bne_iff_ne.mpr c19
         by_cases c20 : (wrap64 (Int.tdiv a0 64)) = 2
         ·rw [if_pos c20] at H
          have c20b0 : ((wrap64 (Int.tdiv a0 64)) == 2) = true := beq_iff_eq.mpr c20
          have c20b1 : ((wrap64 (Int.tdiv a0 64)) != 2) = false := bne_eq_false_iff_eq.mpr c20
          clear c20
          replace H := Option.bind_eq_some_iff.mp H
          obtain ⟨t297, A210, H⟩ := H
          have A21 := Aside0.mk A210
          clear A210
          obtain rfl := Option.some.inj H
          go_wp2_with (first | ((with_reducible refine gate_callee (f := 48) rfl ?_); refine goesL_ (some 54) rfl rfl Tryz.func48 (by kernel_rfl) rfl #[.bool ((Int.tmod a0 8) == 6), .int .i64 2, .int .i64 1] rfl q22_ ?_; (with_reducible refine (impl_either.calls ((Int.tmod a0 8) == 6) 2 1 t297 _ A21.out).mono ?_); rintro e w' ⟨rfl, ⟨nd, rfl⟩⟩; refine ⟨_, rfl, ?_⟩))
          go_ret
          exact ⟨q25_, q23_⟩
         ·rw [if_neg c20] at H
          have c20b0 : ((wrap64 (Int.tdiv a0 64)) == 2) = false := beq_eq_false_iff_ne.mpr c20
          have c20b1 : ((wrap64 (Int.tdiv a0 64)) != 2) = true := bne_iff_ne.mpr c20
          by_cases c22 : (Int.tmod (wrap64 (Int.tdiv a0 8)) 8) = 6
          ·rw [if_pos c22] at H
           have c22b0 : ((Int.tmod (wrap64 (Int.tdiv a0 8)) 8) == 6) = true := beq_iff_eq.mpr c22
           have c22b1 : ((Int.tmod (wrap64 (Int.tdiv a0 8)) 8) != 6) = false := bne_eq_false_iff_eq.mpr c22
           clear c22
           replace H := Option.bind_eq_some_iff.mp H
           obtain ⟨t298, A230, H⟩ := H
           have A23 := Aside0.mk A230
           clear A230
           obtain rfl := Option.some.inj H
           go_wp2_with (first | ((with_reducible refine gate_callee (f := 48) rfl ?_); refine goesL_ (some 61) rfl rfl Tryz.func48 (by kernel_rfl) rfl #[.bool true, .int .i64 2, .int .i64 1] rfl q22_ ?_; (with_reducible refine (impl_either.calls true 2 1 t298 _ A23.out).mono ?_); rintro e w' ⟨rfl, ⟨nd, rfl⟩⟩; refine ⟨_, rfl, ?_⟩))
           go_ret
           exact ⟨q25_, q23_⟩
          ·rw [if_neg c22] at H
           have c22b0 : ((Int.tmod (wrap64 (Int.tdiv a0 8)) 8) == 6) = false := beq_eq_false_iff_ne.mpr c22
           have c22b1 : ((Int.tmod (wrap64 (Int.tdiv a0 8)) 8) != 6) = true := bne_iff_ne.mpr c22
           replace H := Option.bind_eq_some_iff.mp H
           obtain ⟨t299, A240, H⟩ := H
           have A24 := Aside0.mk A240
           clear A240
           obtain rfl := Option.some.inj H
           go_wp2_with (first | ((with_reducible refine gate_callee (f := 48) rfl ?_); refine goesL_ (some 61) rfl rfl Tryz.func48 (by kernel_rfl) rfl #[.bool ((Int.tmod a0 8) == 6), .int .i64 2, .int .i64 1] rfl q22_ ?_; (with_reducible refine (impl_either.calls ((Int.tmod a0 8) == 6) 2 1 t299 _ A24.out).mono ?_); rintro e w' ⟨rfl, ⟨nd, rfl⟩⟩; refine ⟨_, rfl, ?_⟩))
           go_ret
           exact ⟨q25_, q23_⟩
def spec_l1In.f (a0 : Int) (a1 : Int) (a2 : Int) : Option (Bool) := if a0 ≥ a1 then (some (decide (a0 ≤ a2))) else (some false)
theorem spec_l1In.calls (a0 : Int) (a1 : Int) (a2 : Int) (r : Bool) (w : World) (h : spec_l1In.f a0 a1 a2 = some r) :
  Calls Tryz.prog 51 #[.int .i64 a0, .int .i64 a1, .int .i64 a2] w fun e w' => e = .returned (.bool r) ∧ Drawn0 w w' := by
 have H : (if a0 ≥ a1 then (some (decide (a0 ≤ a2))) else (some false)) = some r := h
 clear h
 by_cases c4 : a0 ≥ a1
 ·rw [if_pos c4] at H
  have c4b0 : decide (a1 ≤ a0) = true := decide_eq_true c4
  clear c4
  obtain rfl := Option.some.inj H
  go_enter Tryz.func51, Tryz.ntmps51
  go_wp2
  go_ret
  exact ⟨q29_, q42_⟩
 ·rw [if_neg c4] at H
  have c4b0 : decide (a1 ≤ a0) = false := decide_eq_false c4
  clear c4
  obtain rfl := Option.some.inj H
  go_enter Tryz.func51, Tryz.ntmps51
  go_wp2
  go_ret
  exact ⟨q29_, q42_⟩
end Go.Proofs.YtodlnnoekccmmaaGreatDoor.QFnLengths
