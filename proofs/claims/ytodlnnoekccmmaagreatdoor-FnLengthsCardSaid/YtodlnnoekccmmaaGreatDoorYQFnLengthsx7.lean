/- The machine's side of a law, written by a program of this session for this claim. -/
import Derived.Test.YtodlnnoekccmmaaGreatDoorYQq
import Derived.Test.YtodlnnoekccmmaaGreatDoorYQFnLengthsx0
import Derived.Test.YtodlnnoekccmmaaGreatDoorYQFnLengthsx1
import Derived.Test.YtodlnnoekccmmaaGreatDoorYQFnLengthsx6
namespace Go.Proofs.YtodlnnoekccmmaaGreatDoor.QFnLengths
open Go.Proofs.YtodlnnoekccmmaaGreatDoor.Qq
open Go.RowKit Go.Proofs.YtodlnnoekccmmaaGreatDoor.LibX Go.Proofs.YtodlnnoekccmmaaGreatDoor.LibE Go.Proofs.YtodlnnoekccmmaaGreatDoorW.PrintWords Go.Proofs.YtodlnnoekccmmaaGreatDoorW.PrintLast Go.Proofs.YtodlnnoekccmmaaGreatDoorW.PrintMore
attribute [local go_sem] max2_int min2_int max_two min_two max_three min_three max_four min_four   -- for this text's walks alone
set_option maxHeartbeats 8000000
set_option maxRecDepth 100000
set_option linter.unusedVariables false
set_option linter.unusedSimpArgs false
def impl_holeOf.l0 : Nat → ByteArray → List ByteArray → Int → Int → Option (ByteArray)
 | 0, _, _, _, _ => none
 | k + 1, x0, x5, x6, x7 => if x7 < x6 then (if 0 ≤ x7 then (if x7 < (x5.length : Int) then ((strings_Contains.f x0 (rdOf ByteArray.empty x5 x7)).bind fun t265 => (if t265 = true then (some (rdOf ByteArray.empty x5 x7)) else (impl_holeOf.l0 k x0 x5 x6 (wrap64 (x7 + 1))))) else (none)) else (none)) else (some (⟨#[]⟩ : ByteArray))
def impl_holeOf.f (k : Nat) (a0 : ByteArray) : Option (ByteArray) := (impl_names.f (⟨#[110, 49, 54, 32, 110, 56, 32, 101, 56]⟩ : ByteArray)).bind fun t261 => (impl_holeOf.l0 k a0 t261 (t261.length : Int) 0)
theorem impl_holeOf.mono_l : ∀ k, (∀ y0 y1 y2 y3, LeO (impl_holeOf.l0 k y0 y1 y2 y3) (impl_holeOf.l0 (k + 1) y0 y1 y2 y3))
 | 0 => fun _ _ _ _ r h => by simp [impl_holeOf.l0] at h
 | k + 1 => by
  have ih0 := impl_holeOf.mono_l k
  ·intro y0 y1 y2 y3
   unfold impl_holeOf.l0
   repeat' first
   | (with_reducible first | exact ih0 _ _ _ _ | exact LeO.refl _ | exact LeO.none _ | refine LeO.ite ?_ ?_ | refine LeO.bind ?_ (fun _ => ?_))
   | exact ih0 _ _ _ _
   | exact LeO.none _
   | refine LeO.ite ?_ ?_
   | refine LeO.bind ?_ (fun _ => ?_)
theorem impl_holeOf.mono : ∀ a0 k, LeO (impl_holeOf.f k a0) (impl_holeOf.f (k + 1) a0) := by
 intro a0 k
 have ih0 := impl_holeOf.mono_l k
 unfold impl_holeOf.f
 repeat' first
   | (with_reducible first | exact ih0 _ _ _ _ | exact LeO.refl _ | exact LeO.none _ | refine LeO.ite ?_ ?_ | refine LeO.bind ?_ (fun _ => ?_))
   | exact ih0 _ _ _ _
   | exact LeO.none _
   | refine LeO.ite ?_ ?_
   | refine LeO.bind ?_ (fun _ => ?_)
theorem impl_holeOf.calls (k : Nat) (a0 : ByteArray) (r : ByteArray) (w : World) (h : impl_holeOf.f k a0 = some r) (hG : Go.Proofs.YtodlnnoekccmmaaGreatDoor.LibW.GL w := by first | exact hG | exact hG.below q1_ | exact hG.drewN _) :
  Calls Tryz.prog 47 #[.string a0] w fun e w' => e = .returned (.string r) ∧ Below w.heap.size w w' := by
 have HB := Aside0.mk (Below.refl w.heap.size w)
 have H : ((impl_names.f (⟨#[110, 49, 54, 32, 110, 56, 32, 101, 56]⟩ : ByteArray)).bind fun t261 => (impl_holeOf.l0 k a0 t261 (t261.length : Int) 0)) = some r := h
 clear h
 replace H := Option.bind_eq_some_iff.mp H
 obtain ⟨t261, A20, H⟩ := H
 have A2 := Aside0.mk A20
 clear A20
 have H' := Aside0.mk H
 clear H
 go_enter Tryz.func47, Tryz.ntmps47
 go_wp2_with (first | ((with_reducible refine gate_callee (f := 97) rfl ?_); refine goesL_ (some 5) rfl rfl Tryz.func97 (by kernel_rfl) rfl #[.string (⟨#[110, 49, 54, 32, 110, 56, 32, 101, 56]⟩ : ByteArray)] rfl q22_ ?_; (with_reducible refine (impl_names.calls (⟨#[110, 49, 54, 32, 110, 56, 32, 101, 56]⟩ : ByteArray) t261 _ A2.out).mono ?_); rintro e w3 ⟨v262, rfl, ho0, hb⟩; refine ⟨_, rfl, ?_⟩; have n0_ := Aside0.mk (Kd.R_lower ho0 (below_size q23_)); have n1_ := Aside0.mk (below_step q23_ hb); clear HB; have HO263 := n0_; have HB := n1_; clear n0_ n1_; (try clear hb); (try clear ho0); obtain ⟨Ao4, co4, eo4⟩ := Kd.R_slice HO263.out; subst eo4))
 go_loopg [7] k (fun kq v7 w' => ∃ (x7_1 : Int), v7 = .int .i64 x7_1 ∧ Aside0 (impl_holeOf.l0 kq a0 t261 (t261.length : Int) x7_1 = some r) ∧ Aside0 (kq ≤ k) ∧ Aside0 (Kd.R Kd.string 9 w' w.heap.size (fun _ => True) (.slice Ao4 t261.length co4) t261) ∧ Aside0 (Below w.heap.size w w'))
 case atStart => exact ⟨(0), q29_, H', ⟨Nat.le_refl _⟩, ⟨by (with_reducible repeat (first | apply Kd.R_alloc | apply Kd.R_drewN | apply Kd.R_drew)); exact HO263.out⟩, ⟨q23_⟩⟩
 case round =>
  clear H'
  try clear p2
  try clear c4
  obtain ⟨x7_1, rfl, HA, HK1, HO_5, HB⟩ := hrel
  cases gk with
  | zero => exact absurd HA.out (by simp [impl_holeOf.l0])
  | succ k1 =>
   have H := HA.out
   clear HA
   simp only [impl_holeOf.l0] at H
   by_cases c5 : x7_1 < (t261.length : Int)
   ·rw [if_pos c5] at H
    have c5b0 : decide (x7_1 < (t261.length : Int)) = true := decide_eq_true c5
    clear c5
    by_cases c6 : 0 ≤ x7_1
    ·rw [if_pos c6] at H
     have c6b0 : decide (0 ≤ x7_1) = true := decide_eq_true c6
     clear c6
     by_cases c7 : x7_1 < (t261.length : Int)
     ·rw [if_pos c7] at H
      have c7b0 : decide (x7_1 < (t261.length : Int)) = true := decide_eq_true c7
      clear c7
      replace H := Option.bind_eq_some_iff.mp H
      obtain ⟨t265, A80, H⟩ := H
      have A8 := Aside0.mk A80
      clear A80
      by_cases c9 : t265 = true
      ·subst c9
       replace H : (some (rdOf ByteArray.empty t261 x7_1)) = some r := by rw [if_pos rfl] at H; exact H
       obtain rfl := Option.some.inj H
       have p264 : 0 ≤ (x7_1 : Int) := of_decide_eq_true q44_
       have q264 : x7_1 < (t261.length : Int) := of_decide_eq_true q44_
       obtain ⟨ad264, e264, hx264_0⟩ := Kd.at_string (Kd.R_reads' HO_5.out).2.2 x7_1 p264 q264
       cases e264
       replace p264 := eq_true p264
       replace q264 := eq_true q264
       go_wp2_with (first | ((with_reducible refine gate_callee (f := 98) rfl ?_); refine goesL_ (some 13) rfl rfl Tryz.func98 (by kernel_rfl) rfl #[.string a0, .string (rdOf ByteArray.empty t261 x7_1)] rfl q22_ ?_; (with_reducible refine (strings_Contains.calls a0 (rdOf ByteArray.empty t261 x7_1) true _ A8.out).mono ?_); rintro e w' ⟨rfl, ⟨nd, rfl⟩⟩; refine ⟨_, rfl, ?_⟩))
       go_ret
       exact ⟨q25_, q23_⟩
      ·replace c9 := Bool.eq_false_iff.mpr c9
       subst c9
       replace H : (impl_holeOf.l0 k1 a0 t261 (t261.length : Int) (wrap64 (x7_1 + 1))) = some r := by rw [if_neg (show ¬ (false = true) by decide)] at H; exact H
       have H' := Aside0.mk H
       clear H
       have p264 : 0 ≤ (x7_1 : Int) := of_decide_eq_true q44_
       have q264 : x7_1 < (t261.length : Int) := of_decide_eq_true q44_
       obtain ⟨ad264, e264, hx264_0⟩ := Kd.at_string (Kd.R_reads' HO_5.out).2.2 x7_1 p264 q264
       cases e264
       replace p264 := eq_true p264
       replace q264 := eq_true q264
       go_wp2_with (first | ((with_reducible refine gate_callee (f := 98) rfl ?_); refine goesL_ (some 13) rfl rfl Tryz.func98 (by kernel_rfl) rfl #[.string a0, .string (rdOf ByteArray.empty t261 x7_1)] rfl q22_ ?_; (with_reducible refine (strings_Contains.calls a0 (rdOf ByteArray.empty t261 x7_1) false _ A8.out).mono ?_); rintro e w' ⟨rfl, ⟨nd, rfl⟩⟩; refine ⟨_, rfl, ?_⟩))
       go_roundg k1
       case measure => have := HK1.out; omega
       case rel => exact ⟨(wrap64 (x7_1 + 1)), q29_, H', ⟨by have := HK1.out; omega⟩, ⟨by (with_reducible repeat (first | apply Kd.R_alloc | apply Kd.R_drewN | apply Kd.R_drew)); exact HO_5.out⟩, ⟨q23_⟩⟩
     ·rw [if_neg c7] at H
      exact absurd H (by simp)
    ·rw [if_neg c6] at H
     exact absurd H (by simp)
   ·rw [if_neg c5] at H
    have c5b0 : decide (x7_1 < (t261.length : Int)) = false := decide_eq_false c5
    clear c5
    obtain rfl := Option.some.inj H
    go_wp2
    go_ret
    exact ⟨q25_, q23_⟩
def impl_LengthOf.j0 : Nat → ByteArray → Bool → Option (Int)
 | 0, _, _ => none
 | k + 1, x6, x15 => if x15 = true then (some 2) else (if x6.toList = ([110, 49, 54] : List UInt8) then (some 3) else (some 1))
def impl_LengthOf.f (k : Nat) (a0 : Int) (a1 : Bool) : Option (Int) := (impl_TemplateOf.f k a0 a1).bind fun t266 => ((impl_holeOf.f k t266).bind fun t267 => (if t266.toList = ([] : List UInt8) then (some 0) else (if a1 = true then (impl_LengthOf.j0 k t267 true) else (if t267.toList = ([110, 56] : List UInt8) then (impl_LengthOf.j0 k t267 true) else (impl_LengthOf.j0 k t267 (t267.toList == ([101, 56] : List UInt8)))))))
theorem impl_LengthOf.mono_l : ∀ k, (∀ y0 y1, LeO (impl_LengthOf.j0 k y0 y1) (impl_LengthOf.j0 (k + 1) y0 y1))
 | 0 => fun _ _ r h => by simp [impl_LengthOf.j0] at h
 | k + 1 => by
  have ih0 := impl_LengthOf.mono_l k
  ·intro y0 y1
   unfold impl_LengthOf.j0
   repeat' first
   | (with_reducible first | exact ih0 _ _ | exact impl_TemplateOf.mono _ _ _ | exact impl_holeOf.mono _ _ | exact LeO.refl _ | exact LeO.none _ | refine LeO.ite ?_ ?_ | refine LeO.bind ?_ (fun _ => ?_))
   | exact ih0 _ _
   | exact impl_TemplateOf.mono _ _ _
   | exact impl_holeOf.mono _ _
   | exact LeO.none _
   | refine LeO.ite ?_ ?_
   | refine LeO.bind ?_ (fun _ => ?_)
theorem impl_LengthOf.mono : ∀ a0 a1 k, LeO (impl_LengthOf.f k a0 a1) (impl_LengthOf.f (k + 1) a0 a1) := by
 intro a0 a1 k
 have ih0 := impl_LengthOf.mono_l k
 unfold impl_LengthOf.f
 repeat' first
   | (with_reducible first | exact ih0 _ _ | exact impl_TemplateOf.mono _ _ _ | exact impl_holeOf.mono _ _ | exact LeO.refl _ | exact LeO.none _ | refine LeO.ite ?_ ?_ | refine LeO.bind ?_ (fun _ => ?_))
   | exact ih0 _ _
   | exact impl_TemplateOf.mono _ _ _
   | exact impl_holeOf.mono _ _
   | exact LeO.none _
   | refine LeO.ite ?_ ?_
   | refine LeO.bind ?_ (fun _ => ?_)
theorem impl_LengthOf.calls (k : Nat) (a0 : Int) (a1 : Bool) (r : Int) (w : World) (h : impl_LengthOf.f k a0 a1 = some r) (hG : Go.Proofs.YtodlnnoekccmmaaGreatDoor.LibW.GL w := by first | exact hG | exact hG.below q1_ | exact hG.drewN _) :
  Calls Tryz.prog 13 #[.int .i64 a0, .bool a1] w fun e w' => e = .returned (.int .i64 r) ∧ Below w.heap.size w w' := by
 have HB := Aside0.mk (Below.refl w.heap.size w)
 have H : ((impl_TemplateOf.f k a0 a1).bind fun t266 => ((impl_holeOf.f k t266).bind fun t267 => (if t266.toList = ([] : List UInt8) then (some 0) else (if a1 = true then (impl_LengthOf.j0 k t267 true) else (if t267.toList = ([110, 56] : List UInt8) then (impl_LengthOf.j0 k t267 true) else (impl_LengthOf.j0 k t267 (t267.toList == ([101, 56] : List UInt8)))))))) = some r := h
 clear h
 replace H := Option.bind_eq_some_iff.mp H
 obtain ⟨t266, A30, H⟩ := H
 have A3 := Aside0.mk A30
 clear A30
 replace H := Option.bind_eq_some_iff.mp H
 obtain ⟨t267, A40, H⟩ := H
 have A4 := Aside0.mk A40
 clear A40
 by_cases c5 : t266.toList = ([] : List UInt8)
 ·rw [if_pos c5] at H
  have c5b0 : (t266.toList == ([] : List UInt8)) = true := beq_iff_eq.mpr c5
  have c5b1 : (t266.toList != ([] : List UInt8)) = false := bne_eq_false_iff_eq.mpr c5
  clear c5
  obtain rfl := Option.some.inj H
  go_enter Tryz.func13, Tryz.ntmps13
  go_wp2_with (first | ((with_reducible refine gate_callee (f := 46) rfl ?_); refine goesL_ (some 9) rfl rfl Tryz.func46 (by kernel_rfl) rfl #[.int .i64 a0, .bool a1] rfl q22_ ?_; (with_reducible refine (impl_TemplateOf.calls k a0 a1 t266 _ A3.out).mono ?_); rintro e w6 ⟨rfl, hb⟩; refine ⟨_, rfl, ?_⟩; replace HB := Aside0.mk (below_step q23_ hb); (try clear hb)) | ((with_reducible refine gate_callee (f := 47) rfl ?_); refine goesL_ (some 11) rfl rfl Tryz.func47 (by kernel_rfl) rfl #[.string t266] rfl q22_ ?_; (with_reducible refine (impl_holeOf.calls k t266 t267 _ A4.out).mono ?_); rintro e w7 ⟨rfl, hb⟩; refine ⟨_, rfl, ?_⟩; replace HB := Aside0.mk (below_step q23_ hb); (try clear hb)))
  go_ret
  exact ⟨q25_, q23_⟩
 ·rw [if_neg c5] at H
  have c5b0 : (t266.toList == ([] : List UInt8)) = false := beq_eq_false_iff_ne.mpr c5
  have c5b1 : (t266.toList != ([] : List UInt8)) = true := bne_iff_ne.mpr c5
  have HC8 := Aside0.mk H
  clear H
  go_enter Tryz.func13, Tryz.ntmps13
  go_upto_region 5 with (first | ((with_reducible refine gate_callee (f := 46) rfl ?_); refine goesL_ (some 9) rfl rfl Tryz.func46 (by kernel_rfl) rfl #[.int .i64 a0, .bool a1] rfl q22_ ?_; (with_reducible refine (impl_TemplateOf.calls k a0 a1 t266 _ A3.out).mono ?_); rintro e w9 ⟨rfl, hb⟩; refine ⟨_, rfl, ?_⟩; replace HB := Aside0.mk (below_step q23_ hb); (try clear hb)) | ((with_reducible refine gate_callee (f := 47) rfl ?_); refine goesL_ (some 11) rfl rfl Tryz.func47 (by kernel_rfl) rfl #[.string t266] rfl q22_ ?_; (with_reducible refine (impl_holeOf.calls k t266 t267 _ A4.out).mono ?_); rintro e w10 ⟨rfl, hb⟩; refine ⟨_, rfl, ?_⟩; replace HB := Aside0.mk (below_step q23_ hb); (try clear hb)))
  (try simp only [Act.put, List.setIfInBounds_toArray, List.set_cons_zero, List.set_cons_succ])
  go_cut [15] (fun v15 wc => ∃ (kq : Nat) (x15_7 : Bool), v15 = .bool x15_7 ∧ Aside0 (impl_LengthOf.j0 kq t267 x15_7 = some r) ∧ Aside0 (kq ≤ k) ∧ Aside0 (Below w.heap.size w wc))
  case first =>
   have H := HC8.out
   clear HC8
   by_cases c11 : a1 = true
   ·subst c11
    replace H : (impl_LengthOf.j0 k t267 true) = some r := by rw [if_pos rfl] at H; exact H
    have H' := Aside0.mk H
    clear H
    go_wp2
    go_meet
    case rel => exact ⟨_, (true), q29_, H', ⟨q56_⟩, ⟨q23_⟩⟩
   ·replace c11 := Bool.eq_false_iff.mpr c11
    subst c11
    replace H : (if t267.toList = ([110, 56] : List UInt8) then (impl_LengthOf.j0 k t267 true) else (impl_LengthOf.j0 k t267 (t267.toList == ([101, 56] : List UInt8)))) = some r := by rw [if_neg (show ¬ (false = true) by decide)] at H; exact H
    by_cases c12 : t267.toList = ([110, 56] : List UInt8)
    ·rw [if_pos c12] at H
     have c12b0 : (t267.toList == ([110, 56] : List UInt8)) = true := beq_iff_eq.mpr c12
     have c12b1 : (t267.toList != ([110, 56] : List UInt8)) = false := bne_eq_false_iff_eq.mpr c12
     clear c12
     (first | rw [c12b0] | (simp only [i64_w, i32_w]; rw [c12b0]) | skip)
     have H' := Aside0.mk H
     clear H
     go_wp2
     go_meet
     case rel => exact ⟨_, (true), q29_, H', ⟨q56_⟩, ⟨q23_⟩⟩
    ·rw [if_neg c12] at H
     have c12b0 : (t267.toList == ([110, 56] : List UInt8)) = false := beq_eq_false_iff_ne.mpr c12
     have c12b1 : (t267.toList != ([110, 56] : List UInt8)) = true := bne_iff_ne.mpr c12
     (first | rw [c12b0] | (simp only [i64_w, i32_w]; rw [c12b0]) | skip)
     have H' := Aside0.mk H
     clear H
     go_wp2
     go_meet
     case rel => exact ⟨_, ((t267.toList == ([101, 56] : List UInt8))), q29_, H', ⟨q56_⟩, ⟨q23_⟩⟩
  case rest =>
   clear HC8
   try clear c1
   try clear p2
   try clear c4
   try clear c5
   try clear c5b0
   try clear c5b1
   try clear p6
   try clear c11
   try clear c12
   try clear c12b0
   try clear c12b1
   obtain ⟨kq, x15_7, rfl, HA, HJ7, HB⟩ := hcut
   cases kq with
   | zero => exact absurd HA.out (by simp [impl_LengthOf.j0])
   | succ kj7 =>
    have H := HA.out
    clear HA
    simp only [impl_LengthOf.j0] at H
    by_cases c13 : x15_7 = true
    ·subst c13
     replace H : (some 2) = some r := by rw [if_pos rfl] at H; exact H
     obtain rfl := Option.some.inj H
     go_wp2
     go_ret
     exact ⟨q25_, q23_⟩
    ·replace c13 := Bool.eq_false_iff.mpr c13
     subst c13
     replace H : (if t267.toList = ([110, 49, 54] : List UInt8) then (some 3) else (some 1)) = some r := by rw [if_neg (show ¬ (false = true) by decide)] at H; exact H
     by_cases c14 : t267.toList = ([110, 49, 54] : List UInt8)
     ·rw [if_pos c14] at H
      have c14b0 : (t267.toList == ([110, 49, 54] : List UInt8)) = true := beq_iff_eq.mpr c14
      have c14b1 : (t267.toList != ([110, 49, 54] : List UInt8)) = false := bne_eq_false_iff_eq.mpr c14
      clear c14
      obtain rfl := Option.some.inj H
      go_wp2
      go_ret
      exact ⟨q25_, q23_⟩
     ·rw [if_neg c14] at H
      have c14b0 : (t267.toList == ([110, 49, 54] : List UInt8)) = false := beq_eq_false_iff_ne.mpr c14
      have c14b1 : (t267.toList != ([110, 49, 54] : List UInt8)) = true := bne_iff_ne.mpr c14
      obtain rfl := Option.some.inj H
      go_wp2
      go_ret
      exact ⟨q25_, q23_⟩
def impl_either.f (a0 : Bool) (a1 : Int) (a2 : Int) : Option (Int) := if a0 = true then (some a1) else (some a2)
theorem impl_either.calls (a0 : Bool) (a1 : Int) (a2 : Int) (r : Int) (w : World) (h : impl_either.f a0 a1 a2 = some r) :
  Calls Tryz.prog 48 #[.bool a0, .int .i64 a1, .int .i64 a2] w fun e w' => e = .returned (.int .i64 r) ∧ Drawn0 w w' := by
 have H : (if a0 = true then (some a1) else (some a2)) = some r := h
 clear h
 by_cases c4 : a0 = true
 ·subst c4
  replace H : (some a1) = some r := by rw [if_pos rfl] at H; exact H
  obtain rfl := Option.some.inj H
  go_enter Tryz.func48, Tryz.ntmps48
  go_wp2
  go_ret
  exact ⟨q29_, q42_⟩
 ·replace c4 := Bool.eq_false_iff.mpr c4
  subst c4
  replace H : (some a2) = some r := by rw [if_neg (show ¬ (false = true) by decide)] at H; exact H
  obtain rfl := Option.some.inj H
  go_enter Tryz.func48, Tryz.ntmps48
  go_wp2
  go_ret
  exact ⟨q29_, q42_⟩
mutual
def impl_lowCycles.j0 : Nat → Int → Int → Bool → Option (Int)
 | 0, _, _, _ => none
 | k + 1, x0, x7, x24 => if x24 = true then (some 2) else (if x7 = 4 then (impl_lowCycles.j1 k x0 x7 (x7 == 4)) else (impl_lowCycles.j1 k x0 x7 (x7 == 5)))
def impl_lowCycles.j1 : Nat → Int → Int → Bool → Option (Int)
 | 0, _, _, _ => none
 | k + 1, x0, x7, x27 => if x27 = true then ((impl_either.f (x0 == 6) 3 1).bind fun t274 => (some t274)) else (if x7 = 6 then ((impl_either.f (x0 == 6) 3 2).bind fun t275 => (some t275)) else (some 1))
end
def impl_lowCycles.f (k : Nat) (a0 : Int) (a1 : Int) (a2 : Bool) : Option (Int) := if a1 = 0 then (if a0 ≥ 4 then ((impl_either.f a2 3 2).bind fun t268 => (some t268)) else ((some (([1, 5, 1, 3] : List Int) : List Int)).bind fun y269 => (if 0 ≤ a0 then (if a0 < (y269.length : Int) then (some (rd y269 a0)) else (none)) else (none)))) else (if a1 = 1 then ((impl_either.f ((Int.tmod a0 2) == 0) 3 2).bind fun t273 => (some t273)) else (if a1 = 2 then (impl_lowCycles.j0 k a0 a1 (a1 == 2)) else (impl_lowCycles.j0 k a0 a1 (a1 == 3))))
theorem impl_lowCycles.mono_l : ∀ k, (∀ y0 y1 y2, LeO (impl_lowCycles.j0 k y0 y1 y2) (impl_lowCycles.j0 (k + 1) y0 y1 y2)) ∧ (∀ y0 y1 y2, LeO (impl_lowCycles.j1 k y0 y1 y2) (impl_lowCycles.j1 (k + 1) y0 y1 y2))
 | 0 => ⟨fun _ _ _ r h => by simp [impl_lowCycles.j0] at h, fun _ _ _ r h => by simp [impl_lowCycles.j1] at h⟩
 | k + 1 => by
  obtain ⟨ih0, ih1⟩ := impl_lowCycles.mono_l k
  refine ⟨?_, ?_⟩
  ·intro y0 y1 y2
   unfold impl_lowCycles.j0
   repeat' first
   | (with_reducible first | exact ih0 _ _ _ | exact ih1 _ _ _ | exact LeO.refl _ | exact LeO.none _ | refine LeO.ite ?_ ?_ | refine LeO.bind ?_ (fun _ => ?_))
   | exact ih0 _ _ _
   | exact ih1 _ _ _
   | exact LeO.none _
   | refine LeO.ite ?_ ?_
   | refine LeO.bind ?_ (fun _ => ?_)
  ·intro y0 y1 y2
   unfold impl_lowCycles.j1
   repeat' first
   | (with_reducible first | exact ih0 _ _ _ | exact ih1 _ _ _ | exact LeO.refl _ | exact LeO.none _ | refine LeO.ite ?_ ?_ | refine LeO.bind ?_ (fun _ => ?_))
   | exact ih0 _ _ _
   | exact ih1 _ _ _
   | exact LeO.none _
   | refine LeO.ite ?_ ?_
   | refine LeO.bind ?_ (fun _ => ?_)
theorem impl_lowCycles.mono : ∀ a0 a1 a2 k, LeO (impl_lowCycles.f k a0 a1 a2) (impl_lowCycles.f (k + 1) a0 a1 a2) := by
 intro a0 a1 a2 k
 obtain ⟨ih0, ih1⟩ := impl_lowCycles.mono_l k
 unfold impl_lowCycles.f
 repeat' first
   | (with_reducible first | exact ih0 _ _ _ | exact ih1 _ _ _ | exact LeO.refl _ | exact LeO.none _ | refine LeO.ite ?_ ?_ | refine LeO.bind ?_ (fun _ => ?_))
   | exact ih0 _ _ _
   | exact ih1 _ _ _
   | exact LeO.none _
   | refine LeO.ite ?_ ?_
   | refine LeO.bind ?_ (fun _ => ?_)
theorem impl_lowCycles.calls (k : Nat) (a0 : Int) (a1 : Int) (a2 : Bool) (r : Int) (w : World) (h : impl_lowCycles.f k a0 a1 a2 = some r) :
  Calls Tryz.prog 49 #[.int .i64 a0, .int .i64 a1, .bool a2] w fun e w' => e = .returned (.int .i64 r) ∧ Below w.heap.size w w' := by
 have HB := Aside0.mk (Below.refl w.heap.size w)
 have H : (if a1 = 0 then (if a0 ≥ 4 then ((impl_either.f a2 3 2).bind fun t268 => (some t268)) else ((some (([1, 5, 1, 3] : List Int) : List Int)).bind fun y269 => (if 0 ≤ a0 then (if a0 < (y269.length : Int) then (some (rd y269 a0)) else (none)) else (none)))) else (if a1 = 1 then ((impl_either.f ((Int.tmod a0 2) == 0) 3 2).bind fun t273 => (some t273)) else (if a1 = 2 then (impl_lowCycles.j0 k a0 a1 (a1 == 2)) else (impl_lowCycles.j0 k a0 a1 (a1 == 3))))) = some r := h
 clear h
 by_cases c4 : a1 = 0
 ·rw [if_pos c4] at H
  have c4b0 : (a1 == 0) = true := beq_iff_eq.mpr c4
  have c4b1 : (a1 != 0) = false := bne_eq_false_iff_eq.mpr c4
  clear c4
  by_cases c5 : a0 ≥ 4
  ·rw [if_pos c5] at H
   have c5b0 : decide (4 ≤ a0) = true := decide_eq_true c5
   clear c5
   replace H := Option.bind_eq_some_iff.mp H
   obtain ⟨t268, A60, H⟩ := H
   have A6 := Aside0.mk A60
   clear A60
   obtain rfl := Option.some.inj H
   go_enter Tryz.func49, Tryz.ntmps49
   go_wp2_with (first | ((with_reducible refine gate_callee (f := 48) rfl ?_); refine goesL_ (some 13) rfl rfl Tryz.func48 (by kernel_rfl) rfl #[.bool a2, .int .i64 3, .int .i64 2] rfl q22_ ?_; (with_reducible refine (impl_either.calls a2 3 2 t268 _ A6.out).mono ?_); rintro e w' ⟨rfl, ⟨nd, rfl⟩⟩; refine ⟨_, rfl, ?_⟩))
   go_ret
   exact ⟨q25_, q23_⟩
  ·rw [if_neg c5] at H
   have c5b0 : decide (4 ≤ a0) = false := decide_eq_false c5
   clear c5
   obtain ⟨y269, hy269⟩ : ∃ y_ : List Int, y_ = (([1, 5, 1, 3] : List Int)) := ⟨_, rfl⟩
   replace H : (if 0 ≤ a0 then (if a0 < (y269.length : Int) then (some (rd y269 a0)) else (none)) else (none)) = some r := by first | (rw [hy269]; with_reducible exact H) | (have H2_ := (Option.bind_some _ _).symm.trans H; rw [hy269]; with_reducible exact H2_) | (have H2_ := (Option.bind_some _ _).symm.trans H; with_reducible exact H2_) | with_reducible exact H | (rw [hy269]; exact H) | exact H
   have Ny269 := Aside0.mk hy269
   clear hy269
   by_cases c7 : 0 ≤ a0
   ·rw [if_pos c7] at H
    have c7b0 : decide (0 ≤ a0) = true := decide_eq_true c7
    clear c7
    by_cases c8 : a0 < (y269.length : Int)
    ·rw [if_pos c8] at H
     have c8b0 : decide (a0 < (y269.length : Int)) = true := decide_eq_true c8
     clear c8
     obtain rfl := Option.some.inj H
     go_enter Tryz.func49, Tryz.ntmps49
     go_wp2_with (first | ((with_reducible refine gate_dst (N := 14) rfl ?_); refine Kd.R_lit (Kd.int .i64) _ 2 ?hg (N := 14) ?hd (xs := ([1, 5, 1, 3] : List Int)) (inner := [.int .i64 1, .int .i64 5, .int .i64 1, .int .i64 3]) (ok := fun _ => True) (okp := fun _ => True) ?hr ?hp (fun _ hk => hk) trivial (Below.refl _ _) (Nat.le_refl _) (by simp) ?_; (case hd => rfl); (case hg => rfl); (case hr => exact q73_); (case hp => exact q64_); intro v270 w9 ho10 hb hg_ hnew_; clear hg_ hnew_; (first | rw [← Ny269.out] at ho10 | (simp only [Int.reduceToNat] at ho10; rw [← Ny269.out] at ho10)); have n0_ := Aside0.mk (Kd.R_lower ho10 (below_size q23_)); have n1_ := Aside0.mk (below_step q23_ hb); clear HB; have HO271 := n0_; have HB := n1_; clear n0_ n1_; clear hb ho10; obtain ⟨Ao11, co11, eo11⟩ := Kd.R_slice HO271.out; subst eo11; have p272 : 0 ≤ (a0 : Int) := of_decide_eq_true q44_; have q272 : a0 < (y269.length : Int) := of_decide_eq_true q44_; obtain ⟨ad272, e272, hx272_0⟩ := Kd.at_int (Kd.R_reads' HO271.out).2.2 a0 p272 q272; cases e272; replace p272 := eq_true p272; replace q272 := eq_true q272))
     go_ret
     exact ⟨q25_, q23_⟩
    ·rw [if_neg c8] at H
     exact absurd H (by simp)
   ·rw [if_neg c7] at H
    exact absurd H (by simp)
 ·rw [if_neg c4] at H
  have c4b0 : (a1 == 0) = false := beq_eq_false_iff_ne.mpr c4
  have c4b1 : (a1 != 0) = true := bne_iff_ne.mpr c4
  by_cases c12 : a1 = 1
  ·rw [if_pos c12] at H
   have c12b0 : (a1 == 1) = true := beq_iff_eq.mpr c12
   have c12b1 : (a1 != 1) = false := bne_eq_false_iff_eq.mpr c12
   clear c12
   replace H := Option.bind_eq_some_iff.mp H
   obtain ⟨t273, A130, H⟩ := H
   have A13 := Aside0.mk A130
   clear A130
   obtain rfl := Option.some.inj H
   go_enter Tryz.func49, Tryz.ntmps49
   go_wp2_with (first | ((with_reducible refine gate_callee (f := 48) rfl ?_); refine goesL_ (some 23) rfl rfl Tryz.func48 (by kernel_rfl) rfl #[.bool ((Int.tmod a0 2) == 0), .int .i64 3, .int .i64 2] rfl q22_ ?_; (with_reducible refine (impl_either.calls ((Int.tmod a0 2) == 0) 3 2 t273 _ A13.out).mono ?_); rintro e w' ⟨rfl, ⟨nd, rfl⟩⟩; refine ⟨_, rfl, ?_⟩))
   go_ret
   exact ⟨q25_, q23_⟩
  ·rw [if_neg c12] at H
   have c12b0 : (a1 == 1) = false := beq_eq_false_iff_ne.mpr c12
   have c12b1 : (a1 != 1) = true := bne_iff_ne.mpr c12
   have HC14 := Aside0.mk H
   clear H
   go_enter Tryz.func49, Tryz.ntmps49
   go_upto_if 24 with (fail)
   go_cut [24] (fun v24 wc => ∃ (kq : Nat) (x24_13 : Bool), v24 = .bool x24_13 ∧ Aside0 (impl_lowCycles.j0 kq a0 a1 x24_13 = some r) ∧ Aside0 (kq ≤ k) ∧ Aside0 (Below w.heap.size w wc))
   case first =>
    have H := HC14.out
    clear HC14
    by_cases c15 : a1 = 2
    ·rw [if_pos c15] at H
     have c15b0 : (a1 == 2) = true := beq_iff_eq.mpr c15
     have c15b1 : (a1 != 2) = false := bne_eq_false_iff_eq.mpr c15
     clear c15
     (first | rw [c15b0] | (simp only [i64_w, i32_w]; rw [c15b0]) | skip)
     have H' := Aside0.mk H
     clear H
     go_wp2
     go_meet
     case rel => exact ⟨_, ((a1 == 2)), q29_, H', ⟨q56_⟩, ⟨q23_⟩⟩
    ·rw [if_neg c15] at H
     have c15b0 : (a1 == 2) = false := beq_eq_false_iff_ne.mpr c15
     have c15b1 : (a1 != 2) = true := bne_iff_ne.mpr c15
     (first | rw [c15b0] | (simp only [i64_w, i32_w]; rw [c15b0]) | skip)
     have H' := Aside0.mk H
     clear H
     go_wp2
     go_meet
     case rel => exact ⟨_, ((a1 == 3)), q29_, H', ⟨q56_⟩, ⟨q23_⟩⟩
   case rest =>
    clear HC14
    try clear c1
    try clear p2
    try clear q2
    try clear hx2
    try clear c4
    try clear c4b0
    try clear c4b1
    try clear c5
    try clear c5b0
    try clear p6
    try clear c7
    try clear c7b0
    try clear c8
    try clear c8b0
    try clear c12
    try clear c12b0
    try clear c12b1
    try clear c15
    try clear c15b0
    try clear c15b1
    try clear hx272_0
    try clear p272
    try clear q272
    obtain ⟨kq, x24_13, rfl, HA, HJ13, HB⟩ := hcut
    cases kq with
    | zero => exact absurd HA.out (by simp [impl_lowCycles.j0])
    | succ kj13 =>
     have H := HA.out
     clear HA
     simp only [impl_lowCycles.j0] at H
     by_cases c16 : x24_13 = true
     ·subst c16
      replace H : (some 2) = some r := by rw [if_pos rfl] at H; exact H
      obtain rfl := Option.some.inj H
      go_wp2
      go_ret
      exact ⟨q25_, q23_⟩
     ·replace c16 := Bool.eq_false_iff.mpr c16
      subst c16
      replace H : (if a1 = 4 then (impl_lowCycles.j1 kj13 a0 a1 (a1 == 4)) else (impl_lowCycles.j1 kj13 a0 a1 (a1 == 5))) = some r := by rw [if_neg (show ¬ (false = true) by decide)] at H; exact H
      have HC17 := Aside0.mk H
      clear H
      go_upto_if 27 with (fail)
      go_cut [27] (fun v27 wc => ∃ (kq : Nat) (x27_16 : Bool), v27 = .bool x27_16 ∧ Aside0 (impl_lowCycles.j1 kq a0 a1 x27_16 = some r) ∧ Aside0 (kq ≤ kj13) ∧ Aside0 (Below w.heap.size w wc))
      case first =>
       have H := HC17.out
       clear HC17
       by_cases c18 : a1 = 4
       ·rw [if_pos c18] at H
        have c18b0 : (a1 == 4) = true := beq_iff_eq.mpr c18
        have c18b1 : (a1 != 4) = false := bne_eq_false_iff_eq.mpr c18
        clear c18
        (first | rw [c18b0] | (simp only [i64_w, i32_w]; rw [c18b0]) | skip)
        have H' := Aside0.mk H
        clear H
        go_wp2
        go_meet
        case rel => exact ⟨_, ((a1 == 4)), q29_, H', ⟨by have := HJ13.out; first | omega | exact Nat.le_refl _⟩, ⟨q23_⟩⟩
       ·rw [if_neg c18] at H
        have c18b0 : (a1 == 4) = false := beq_eq_false_iff_ne.mpr c18
        have c18b1 : (a1 != 4) = true := bne_iff_ne.mpr c18
        (first | rw [c18b0] | (simp only [i64_w, i32_w]; rw [c18b0]) | skip)
        have H' := Aside0.mk H
        clear H
        go_wp2
        go_meet
        case rel => exact ⟨_, ((a1 == 5)), q29_, H', ⟨by have := HJ13.out; first | omega | exact Nat.le_refl _⟩, ⟨q23_⟩⟩
      case rest =>
       clear HC17
       try clear c1
       try clear p2 p2
       try clear q2 q2
       try clear hx2
       try clear c4
       try clear c4b0
       try clear c4b1
       try clear c5
       try clear c5b0
       try clear p6 p6
       try clear c7
       try clear c7b0
       try clear c8
       try clear c8b0
       try clear c12
       try clear c12b0
       try clear c12b1
       try clear c15
       try clear c15b0
       try clear c15b1
       try clear c16
       try clear c18
       try clear c18b0
       try clear c18b1
       try clear hx272_0
       try clear p272
       try clear q272
       obtain ⟨kq, x27_16, rfl, HA, HJ16, HB⟩ := hcut
       cases kq with
       | zero => exact absurd HA.out (by simp [impl_lowCycles.j1])
       | succ kj16 =>
        have H := HA.out
        clear HA
        simp only [impl_lowCycles.j1] at H
        by_cases c19 : x27_16 = true
        ·subst c19
         replace H : ((impl_either.f (a0 == 6) 3 1).bind fun t274 => (some t274)) = some r := by rw [if_pos rfl] at H; exact H
         replace H := Option.bind_eq_some_iff.mp H
         obtain ⟨t274, A200, H⟩ := H
         have A20 := Aside0.mk A200
         clear A200
         obtain rfl := Option.some.inj H
         go_wp2_with (first | ((with_reducible refine gate_callee (f := 48) rfl ?_); refine goesL_ (some 32) rfl rfl Tryz.func48 (by kernel_rfl) rfl #[.bool (a0 == 6), .int .i64 3, .int .i64 1] rfl q22_ ?_; (with_reducible refine (impl_either.calls (a0 == 6) 3 1 t274 _ A20.out).mono ?_); rintro e w' ⟨rfl, ⟨nd, rfl⟩⟩; refine ⟨_, rfl, ?_⟩))
         go_ret
         exact ⟨q25_, q23_⟩
        ·replace c19 := Bool.eq_false_iff.mpr c19
         subst c19
         replace H : (if a1 = 6 then ((impl_either.f (a0 == 6) 3 2).bind fun t275 => (some t275)) else (some 1)) = some r := by rw [if_neg (show ¬ (false = true) by decide)] at H; exact H
         by_cases c21 : a1 = 6
         ·rw [if_pos c21] at H
          have c21b0 : (a1 == 6) = true := beq_iff_eq.mpr c21
          have c21b1 : (a1 != 6) = false := bne_eq_false_iff_eq.mpr c21
          clear c21
          replace H := Option.bind_eq_some_iff.mp H
          obtain ⟨t275, A220, H⟩ := H
          have A22 := Aside0.mk A220
          clear A220
          obtain rfl := Option.some.inj H
          go_wp2_with (first | ((with_reducible refine gate_callee (f := 48) rfl ?_); refine goesL_ (some 37) rfl rfl Tryz.func48 (by kernel_rfl) rfl #[.bool (a0 == 6), .int .i64 3, .int .i64 2] rfl q22_ ?_; (with_reducible refine (impl_either.calls (a0 == 6) 3 2 t275 _ A22.out).mono ?_); rintro e w' ⟨rfl, ⟨nd, rfl⟩⟩; refine ⟨_, rfl, ?_⟩))
          go_ret
          exact ⟨q25_, q23_⟩
         ·rw [if_neg c21] at H
          have c21b0 : (a1 == 6) = false := beq_eq_false_iff_ne.mpr c21
          have c21b1 : (a1 != 6) = true := bne_iff_ne.mpr c21
          obtain rfl := Option.some.inj H
          go_wp2
          go_ret
          exact ⟨q25_, q23_⟩
end Go.Proofs.YtodlnnoekccmmaaGreatDoor.QFnLengths
