/- The machine's side of a law, written by a program of this session for this claim. -/
import Derived.Test.YtodlnnoekccmmaaGreatDoorYQq
import Derived.Test.YtodlnnoekccmmaaGreatDoorYQFnReadInsx0
import Derived.Test.YtodlnnoekccmmaaGreatDoorYQFnReadInsx8
import Derived.Test.YtodlnnoekccmmaaGreatDoorYQFnReadInsx11
import Derived.Test.YtodlnnoekccmmaaGreatDoorYQFnReadInsx12
namespace Go.Proofs.YtodlnnoekccmmaaGreatDoor.QFnReadIns
open Go.Proofs.YtodlnnoekccmmaaGreatDoor.Qq
open Go.RowKit Go.Proofs.YtodlnnoekccmmaaGreatDoor.LibX Go.Proofs.YtodlnnoekccmmaaGreatDoor.LibE Go.Proofs.YtodlnnoekccmmaaGreatDoorW.PrintWords Go.Proofs.YtodlnnoekccmmaaGreatDoorW.PrintLast Go.Proofs.YtodlnnoekccmmaaGreatDoorW.PrintMore
attribute [local go_sem] max2_int min2_int max_two min_two max_three min_three max_four min_four   -- for this text's walks alone
set_option maxHeartbeats 8000000
set_option maxRecDepth 100000
set_option linter.unusedVariables false
set_option linter.unusedSimpArgs false
def spec_l1Rd_word.l0 : Nat → Int → Int → List Int → Int → Option (Int × Int)
 | 0, _, _, _, _ => none
 | k + 1, x3, x4, x1000, x1001 => if x4 < 8 then ((spec_l1Rd_next.f x1000 x1001).bind fun bt470 => (spec_l1Rd_word.l0 k (Go.bits .or .u64 (IntKind.u64.wrap (x3 * 256)) (IntKind.u64.wrap (bt470.1))) (wrap64 (x4 + 1)) x1000 bt470.2)) else (some (x3, x1001))
def spec_l1Rd_word.f (k : Nat) (s0_0 : List Int) (s0_1 : Int) : Option (Int × Int) := spec_l1Rd_word.l0 k 0 0 s0_0 s0_1
theorem spec_l1Rd_word.mono_l : ∀ k, (∀ y0 y1 y2 y3, LeO (spec_l1Rd_word.l0 k y0 y1 y2 y3) (spec_l1Rd_word.l0 (k + 1) y0 y1 y2 y3))
 | 0 => fun _ _ _ _ r h => by simp [spec_l1Rd_word.l0] at h
 | k + 1 => by
  have ih0 := spec_l1Rd_word.mono_l k
  ·intro y0 y1 y2 y3
   unfold spec_l1Rd_word.l0
   repeat' first
   | (with_reducible first | exact ih0 _ _ _ _ | exact LeO.refl _ | exact LeO.none _ | refine LeO.ite ?_ ?_ | refine LeO.bind ?_ (fun _ => ?_))
   | exact ih0 _ _ _ _
   | exact LeO.none _
   | refine LeO.ite ?_ ?_
   | refine LeO.bind ?_ (fun _ => ?_)
theorem spec_l1Rd_word.mono : ∀ a0 a1 k, LeO (spec_l1Rd_word.f k a0 a1) (spec_l1Rd_word.f (k + 1) a0 a1) := by
 intro a0 a1 k
 have ih0 := spec_l1Rd_word.mono_l k
 unfold spec_l1Rd_word.f
 repeat' first
   | (with_reducible first | exact ih0 _ _ _ _ | exact LeO.refl _ | exact LeO.none _ | refine LeO.ite ?_ ?_ | refine LeO.bind ?_ (fun _ => ?_))
   | exact ih0 _ _ _ _
   | exact LeO.none _
   | refine LeO.ite ?_ ?_
   | refine LeO.bind ?_ (fun _ => ?_)
theorem spec_l1Rd_word.calls (k : Nat) (g : Nat) (s0_0 : List Int) (s0_1 : Int) (r1 : Int) (r2 : Int) (w0 w : World) (hI : IsS96 w0 w g s0_0 s0_1) (hB : Below w0.heap.size w0 w) (h : spec_l1Rd_word.f k s0_0 s0_1 = some (r1, r2)) :
  Calls Tryz.prog 158 #[.pointer (some ⟨g, 0, none⟩)] w fun e w' => e = .returned (.int .u64 r1) ∧ IsS96 w0 w' g s0_0 r2 ∧ Below w0.heap.size w0 w' ∧ KeepBut w w' g none := by
 have HI0 := Aside0.mk hI
 have HK := Aside0.mk (KeepBut.refl w g none)
 have HL := Aside0.mk hB.size
 clear hI
 have HW0 := Aside0.mk hB.size
 have HB := Aside0.mk hB
 clear hB
 have H : (spec_l1Rd_word.l0 k 0 0 s0_0 s0_1) = some (r1, r2) := h
 clear h
 have H' := Aside0.mk H
 clear H
 go_enter Tryz.func158, Tryz.ntmps158
 go_wp2
 go_loopg [3, 4] k (fun kq v3 v4 w' => ∃ (x3_1 : Int) (x4_1 : Int) (x1001_1 : Int), v3 = .int .u64 x3_1 ∧ v4 = .int .i64 x4_1 ∧ Aside0 (spec_l1Rd_word.l0 kq x3_1 x4_1 s0_0 x1001_1 = some (r1, r2)) ∧ Aside0 (kq ≤ k) ∧ Aside0 (IsS96 w0 w' g s0_0 x1001_1) ∧ Aside0 (KeepBut w w' g none) ∧ Aside0 (Below w0.heap.size w0 w'))
 case atStart => exact ⟨(0), (0), (s0_1), q68_, q68_, H', ⟨Nat.le_refl _⟩, ⟨q46_⟩, ⟨q47_⟩, ⟨q34_⟩⟩
 case round =>
  clear H'
  try clear c1
  obtain ⟨x3_1, x4_1, x1001_1, rfl, rfl, HA, HK1, HI0, HK, HB⟩ := hrel
  cases gk with
  | zero => exact absurd HA.out (by simp [spec_l1Rd_word.l0])
  | succ k1 =>
   have H := HA.out
   clear HA
   simp only [spec_l1Rd_word.l0] at H
   by_cases c2 : x4_1 < 8
   ·rw [if_pos c2] at H
    have c2b0 : decide (x4_1 < 8) = true := decide_eq_true c2
    clear c2
    replace H := Option.bind_eq_some_iff.mp H
    obtain ⟨⟨t470, t471⟩, A30, H⟩ := H
    replace H : (spec_l1Rd_word.l0 k1 (Go.bits .or .u64 (IntKind.u64.wrap (x3_1 * 256)) (IntKind.u64.wrap (t470))) (wrap64 (x4_1 + 1)) s0_0 t471) = some (r1, r2) := H
    have A3 := Aside0.mk A30
    clear A30
    have H' := Aside0.mk H
    clear H
    go_wp2_with (first | ((with_reducible refine gate_callee (f := 91) rfl ?_); refine goesL_ (some 12) rfl rfl Tryz.func91 (by kernel_rfl) rfl #[.pointer (some ⟨g, 0, none⟩)] rfl q51_ ?_; (with_reducible refine (spec_l1Rd_next.calls g s0_0 x1001_1 t470 t471 w0 _ ?side1 ?side2 A3.out).mono ?_); (case side1 => exact q110_); (case side2 => exact q107_); rintro e w4 ⟨rfl, hi, hb, hk⟩; refine ⟨_, rfl, ?_⟩; have n0_ := Aside0.mk (KeepBut.trans q47_ hk (.inl rfl)); have n1_ := Aside0.mk (hb); have n2_ := Aside0.mk (hi); clear HK; clear HB; clear HI0; have HK := n0_; have HB := n1_; have HI0 := n2_; clear n0_ n1_ n2_; (try clear hb); (try clear hk); (try clear hi)))
    go_roundg k1
    case measure => have := HK1.out; omega
    case rel => exact ⟨(Go.bits .or .u64 (IntKind.u64.wrap (x3_1 * 256)) (IntKind.u64.wrap (t470))), (wrap64 (x4_1 + 1)), (t471), q68_, q68_, H', ⟨by have := HK1.out; omega⟩, ⟨q46_⟩, ⟨q47_⟩, ⟨q34_⟩⟩
   ·rw [if_neg c2] at H
    have c2b0 : decide (x4_1 < 8) = false := decide_eq_false c2
    clear c2
    simp only [Option.some.injEq, Prod.mk.injEq] at H
    obtain ⟨rfl, rfl⟩ := H
    go_wp2
    go_ret
    exact ⟨q54_, q46_, q34_, q47_⟩
def spec_l1Rd_near.f (k : Nat) (s0_0 : List Int) (s0_1 : Int) (a1 : Int) (a2 : Int) : Option (Int × Int) := (spec_l1Rd_below.f s0_0 s0_1 8).bind fun bt472 => (if bt472.1 = 0 then (some (a1, bt472.2)) else (if bt472.1 = 1 then (some (a2, bt472.2)) else (if a2 < a1 then (some (a1, bt472.2)) else ((spec_l1Rd_word.f k s0_0 bt472.2).bind fun bt474 => (if (IntKind.u64.wrap (wrap64 ((wrap64 (a2 - a1)) + 1))) = 0 then (none) else (some (wrap64 (a1 + (wrap64 (Int.tmod (bt474.1 / 2) (IntKind.u64.wrap (wrap64 ((wrap64 (a2 - a1)) + 1)))))), bt474.2)))))))
theorem spec_l1Rd_near.mono : ∀ a0 a1 a2 a3 k, LeO (spec_l1Rd_near.f k a0 a1 a2 a3) (spec_l1Rd_near.f (k + 1) a0 a1 a2 a3) := by
 intro a0 a1 a2 a3 k
 unfold spec_l1Rd_near.f
 repeat' first
   | (with_reducible first | exact spec_l1Rd_word.mono _ _ _ | exact LeO.refl _ | exact LeO.none _ | refine LeO.ite ?_ ?_ | refine LeO.bind ?_ (fun _ => ?_))
   | exact spec_l1Rd_word.mono _ _ _
   | exact LeO.none _
   | refine LeO.ite ?_ ?_
   | refine LeO.bind ?_ (fun _ => ?_)
theorem spec_l1Rd_near.calls (k : Nat) (g : Nat) (s0_0 : List Int) (s0_1 : Int) (a1 : Int) (a2 : Int) (r1 : Int) (r2 : Int) (w0 w : World) (hI : IsS96 w0 w g s0_0 s0_1) (hB : Below w0.heap.size w0 w) (h : spec_l1Rd_near.f k s0_0 s0_1 a1 a2 = some (r1, r2)) :
  Calls Tryz.prog 134 #[.pointer (some ⟨g, 0, none⟩), .int .i64 a1, .int .i64 a2] w fun e w' => e = .returned (.int .i64 r1) ∧ IsS96 w0 w' g s0_0 r2 ∧ Below w0.heap.size w0 w' ∧ KeepBut w w' g none := by
 have HI0 := Aside0.mk hI
 have HK := Aside0.mk (KeepBut.refl w g none)
 have HL := Aside0.mk hB.size
 clear hI
 have HW0 := Aside0.mk hB.size
 have HB := Aside0.mk hB
 clear hB
 have H : ((spec_l1Rd_below.f s0_0 s0_1 8).bind fun bt472 => (if bt472.1 = 0 then (some (a1, bt472.2)) else (if bt472.1 = 1 then (some (a2, bt472.2)) else (if a2 < a1 then (some (a1, bt472.2)) else ((spec_l1Rd_word.f k s0_0 bt472.2).bind fun bt474 => (if (IntKind.u64.wrap (wrap64 ((wrap64 (a2 - a1)) + 1))) = 0 then (none) else (some (wrap64 (a1 + (wrap64 (Int.tmod (bt474.1 / 2) (IntKind.u64.wrap (wrap64 ((wrap64 (a2 - a1)) + 1)))))), bt474.2)))))))) = some (r1, r2) := h
 clear h
 replace H := Option.bind_eq_some_iff.mp H
 obtain ⟨⟨t472, t473⟩, A40, H⟩ := H
 replace H : (if t472 = 0 then (some (a1, t473)) else (if t472 = 1 then (some (a2, t473)) else (if a2 < a1 then (some (a1, t473)) else ((spec_l1Rd_word.f k s0_0 t473).bind fun bt474 => (if (IntKind.u64.wrap (wrap64 ((wrap64 (a2 - a1)) + 1))) = 0 then (none) else (some (wrap64 (a1 + (wrap64 (Int.tmod (bt474.1 / 2) (IntKind.u64.wrap (wrap64 ((wrap64 (a2 - a1)) + 1)))))), bt474.2))))))) = some (r1, r2) := H
 have A4 := Aside0.mk A40
 clear A40
 by_cases c5 : t472 = 0
 ·rw [if_pos c5] at H
  have c5b0 : (t472 == 0) = true := beq_iff_eq.mpr c5
  have c5b1 : (t472 != 0) = false := bne_eq_false_iff_eq.mpr c5
  clear c5
  simp only [Option.some.injEq, Prod.mk.injEq] at H
  obtain ⟨rfl, rfl⟩ := H
  go_enter Tryz.func134, Tryz.ntmps134
  go_wp2_with (first | ((with_reducible refine gate_callee (f := 44) rfl ?_); refine goesL_ (some 8) rfl rfl Tryz.func44 (by kernel_rfl) rfl #[.pointer (some ⟨g, 0, none⟩), .int .i64 8] rfl q51_ ?_; (with_reducible refine (spec_l1Rd_below.calls g s0_0 s0_1 8 t472 t473 w0 _ ?side1 ?side2 A4.out).mono ?_); (case side1 => exact q110_); (case side2 => exact q107_); rintro e w6 ⟨rfl, hi, hb, hk⟩; refine ⟨_, rfl, ?_⟩; have n0_ := Aside0.mk (KeepBut.trans q47_ hk (.inl rfl)); have n1_ := Aside0.mk (hb); have n2_ := Aside0.mk (hi); clear HK; clear HB; clear HI0; have HK := n0_; have HB := n1_; have HI0 := n2_; clear n0_ n1_ n2_; (try clear hb); (try clear hk); (try clear hi)))
  go_ret
  exact ⟨q54_, q46_, q34_, q47_⟩
 ·rw [if_neg c5] at H
  have c5b0 : (t472 == 0) = false := beq_eq_false_iff_ne.mpr c5
  have c5b1 : (t472 != 0) = true := bne_iff_ne.mpr c5
  by_cases c7 : t472 = 1
  ·rw [if_pos c7] at H
   have c7b0 : (t472 == 1) = true := beq_iff_eq.mpr c7
   have c7b1 : (t472 != 1) = false := bne_eq_false_iff_eq.mpr c7
   clear c7
   simp only [Option.some.injEq, Prod.mk.injEq] at H
   obtain ⟨rfl, rfl⟩ := H
   go_enter Tryz.func134, Tryz.ntmps134
   go_wp2_with (first | ((with_reducible refine gate_callee (f := 44) rfl ?_); refine goesL_ (some 8) rfl rfl Tryz.func44 (by kernel_rfl) rfl #[.pointer (some ⟨g, 0, none⟩), .int .i64 8] rfl q51_ ?_; (with_reducible refine (spec_l1Rd_below.calls g s0_0 s0_1 8 t472 t473 w0 _ ?side1 ?side2 A4.out).mono ?_); (case side1 => exact q110_); (case side2 => exact q107_); rintro e w8 ⟨rfl, hi, hb, hk⟩; refine ⟨_, rfl, ?_⟩; have n0_ := Aside0.mk (KeepBut.trans q47_ hk (.inl rfl)); have n1_ := Aside0.mk (hb); have n2_ := Aside0.mk (hi); clear HK; clear HB; clear HI0; have HK := n0_; have HB := n1_; have HI0 := n2_; clear n0_ n1_ n2_; (try clear hb); (try clear hk); (try clear hi)))
   go_ret
   exact ⟨q54_, q46_, q34_, q47_⟩
  ·rw [if_neg c7] at H
   have c7b0 : (t472 == 1) = false := beq_eq_false_iff_ne.mpr c7
   have c7b1 : (t472 != 1) = true := bne_iff_ne.mpr c7
   by_cases c9 : a2 < a1
   ·rw [if_pos c9] at H
    have c9b0 : decide (a2 < a1) = true := decide_eq_true c9
    clear c9
    simp only [Option.some.injEq, Prod.mk.injEq] at H
    obtain ⟨rfl, rfl⟩ := H
    go_enter Tryz.func134, Tryz.ntmps134
    go_wp2_with (first | ((with_reducible refine gate_callee (f := 44) rfl ?_); refine goesL_ (some 8) rfl rfl Tryz.func44 (by kernel_rfl) rfl #[.pointer (some ⟨g, 0, none⟩), .int .i64 8] rfl q51_ ?_; (with_reducible refine (spec_l1Rd_below.calls g s0_0 s0_1 8 t472 t473 w0 _ ?side1 ?side2 A4.out).mono ?_); (case side1 => exact q110_); (case side2 => exact q107_); rintro e w10 ⟨rfl, hi, hb, hk⟩; refine ⟨_, rfl, ?_⟩; have n0_ := Aside0.mk (KeepBut.trans q47_ hk (.inl rfl)); have n1_ := Aside0.mk (hb); have n2_ := Aside0.mk (hi); clear HK; clear HB; clear HI0; have HK := n0_; have HB := n1_; have HI0 := n2_; clear n0_ n1_ n2_; (try clear hb); (try clear hk); (try clear hi)))
    go_ret
    exact ⟨q54_, q46_, q34_, q47_⟩
   ·rw [if_neg c9] at H
    have c9b0 : decide (a2 < a1) = false := decide_eq_false c9
    clear c9
    replace H := Option.bind_eq_some_iff.mp H
    obtain ⟨⟨t474, t475⟩, A110, H⟩ := H
    replace H : (if (IntKind.u64.wrap (wrap64 ((wrap64 (a2 - a1)) + 1))) = 0 then (none) else (some (wrap64 (a1 + (wrap64 (Int.tmod (t474 / 2) (IntKind.u64.wrap (wrap64 ((wrap64 (a2 - a1)) + 1)))))), t475))) = some (r1, r2) := H
    have A11 := Aside0.mk A110
    clear A110
    by_cases c12 : (IntKind.u64.wrap (wrap64 ((wrap64 (a2 - a1)) + 1))) = 0
    ·rw [if_pos c12] at H
     exact absurd H (by simp)
    ·rw [if_neg c12] at H
     have c12b0 : ((IntKind.u64.wrap (wrap64 ((wrap64 (a2 - a1)) + 1))) == 0) = false := beq_eq_false_iff_ne.mpr c12
     have c12b1 : ((IntKind.u64.wrap (wrap64 ((wrap64 (a2 - a1)) + 1))) != 0) = true := bne_iff_ne.mpr c12
     simp only [Option.some.injEq, Prod.mk.injEq] at H
     obtain ⟨rfl, rfl⟩ := H
     go_enter Tryz.func134, Tryz.ntmps134
     go_wp2_with (first | ((with_reducible refine gate_callee (f := 44) rfl ?_); refine goesL_ (some 8) rfl rfl Tryz.func44 (by kernel_rfl) rfl #[.pointer (some ⟨g, 0, none⟩), .int .i64 8] rfl q51_ ?_; (with_reducible refine (spec_l1Rd_below.calls g s0_0 s0_1 8 t472 t473 w0 _ ?side1 ?side2 A4.out).mono ?_); (case side1 => exact q110_); (case side2 => exact q107_); rintro e w13 ⟨rfl, hi, hb, hk⟩; refine ⟨_, rfl, ?_⟩; have n0_ := Aside0.mk (KeepBut.trans q47_ hk (.inl rfl)); have n1_ := Aside0.mk (hb); have n2_ := Aside0.mk (hi); clear HK; clear HB; clear HI0; have HK := n0_; have HB := n1_; have HI0 := n2_; clear n0_ n1_ n2_; (try clear hb); (try clear hk); (try clear hi)) | ((with_reducible refine gate_callee (f := 158) rfl ?_); refine goesL_ (some 21) rfl rfl Tryz.func158 (by kernel_rfl) rfl #[.pointer (some ⟨g, 0, none⟩)] rfl q51_ ?_; (with_reducible refine (spec_l1Rd_word.calls k g s0_0 t473 t474 t475 w0 _ ?side1 ?side2 A11.out).mono ?_); (case side1 => exact q110_); (case side2 => exact q107_); rintro e w14 ⟨rfl, hi, hb, hk⟩; refine ⟨_, rfl, ?_⟩; have n0_ := Aside0.mk (KeepBut.trans q47_ hk (.inl rfl)); have n1_ := Aside0.mk (hb); have n2_ := Aside0.mk (hi); clear HK; clear HB; clear HI0; have HK := n0_; have HB := n1_; have HI0 := n2_; clear n0_ n1_ n2_; (try clear hb); (try clear hk); (try clear hi)))
     go_ret
     exact ⟨q54_, q46_, q34_, q47_⟩
def spec_l1Rd_off.f (k : Nat) (s0_0 : List Int) (s0_1 : Int) (a1 : Int) (a2 : Int) : Option (Int × Int) := (spec_l1Rd_once.f s0_0 s0_1 24).bind fun bt476 => (if bt476.1 = true then ((some (([wrap64 (a1 - 1), wrap64 (a2 + 1), (-9223372036854775808), 9223372036854775807] : List Int) : List Int)).bind fun y478 => ((spec_l1Rd_below.f s0_0 bt476.2 4).bind fun bt481 => (if 0 ≤ bt481.1 then (if bt481.1 < (y478.length : Int) then (some (rd y478 bt481.1, bt481.2)) else (none)) else (none)))) else ((spec_l1Rd_near.f k s0_0 bt476.2 a1 a2).bind fun bt484 => (some (bt484.1, bt484.2))))
theorem spec_l1Rd_off.mono : ∀ a0 a1 a2 a3 k, LeO (spec_l1Rd_off.f k a0 a1 a2 a3) (spec_l1Rd_off.f (k + 1) a0 a1 a2 a3) := by
 intro a0 a1 a2 a3 k
 unfold spec_l1Rd_off.f
 repeat' first
   | (with_reducible first | exact spec_l1Rd_near.mono _ _ _ _ _ | exact LeO.refl _ | exact LeO.none _ | refine LeO.ite ?_ ?_ | refine LeO.bind ?_ (fun _ => ?_))
   | exact spec_l1Rd_near.mono _ _ _ _ _
   | exact LeO.none _
   | refine LeO.ite ?_ ?_
   | refine LeO.bind ?_ (fun _ => ?_)
theorem spec_l1Rd_off.calls (k : Nat) (g : Nat) (s0_0 : List Int) (s0_1 : Int) (a1 : Int) (a2 : Int) (r1 : Int) (r2 : Int) (w0 w : World) (hI : IsS96 w0 w g s0_0 s0_1) (hB : Below w0.heap.size w0 w) (h : spec_l1Rd_off.f k s0_0 s0_1 a1 a2 = some (r1, r2)) :
  Calls Tryz.prog 105 #[.pointer (some ⟨g, 0, none⟩), .int .i64 a1, .int .i64 a2] w fun e w' => e = .returned (.int .i64 r1) ∧ IsS96 w0 w' g s0_0 r2 ∧ Below w0.heap.size w0 w' ∧ KeepBut w w' g none := by
 have HI0 := Aside0.mk hI
 have HK := Aside0.mk (KeepBut.refl w g none)
 have HL := Aside0.mk hB.size
 clear hI
 have HW0 := Aside0.mk hB.size
 have HB := Aside0.mk hB
 clear hB
 have H : ((spec_l1Rd_once.f s0_0 s0_1 24).bind fun bt476 => (if bt476.1 = true then ((some (([wrap64 (a1 - 1), wrap64 (a2 + 1), (-9223372036854775808), 9223372036854775807] : List Int) : List Int)).bind fun y478 => ((spec_l1Rd_below.f s0_0 bt476.2 4).bind fun bt481 => (if 0 ≤ bt481.1 then (if bt481.1 < (y478.length : Int) then (some (rd y478 bt481.1, bt481.2)) else (none)) else (none)))) else ((spec_l1Rd_near.f k s0_0 bt476.2 a1 a2).bind fun bt484 => (some (bt484.1, bt484.2))))) = some (r1, r2) := h
 clear h
 replace H := Option.bind_eq_some_iff.mp H
 obtain ⟨⟨t476, t477⟩, A40, H⟩ := H
 replace H : (if t476 = true then ((some (([wrap64 (a1 - 1), wrap64 (a2 + 1), (-9223372036854775808), 9223372036854775807] : List Int) : List Int)).bind fun y478 => ((spec_l1Rd_below.f s0_0 t477 4).bind fun bt481 => (if 0 ≤ bt481.1 then (if bt481.1 < (y478.length : Int) then (some (rd y478 bt481.1, bt481.2)) else (none)) else (none)))) else ((spec_l1Rd_near.f k s0_0 t477 a1 a2).bind fun bt484 => (some (bt484.1, bt484.2)))) = some (r1, r2) := H
 have A4 := Aside0.mk A40
 clear A40
 by_cases c5 : t476 = true
 ·subst c5
  replace H : ((some (([wrap64 (a1 - 1), wrap64 (a2 + 1), (-9223372036854775808), 9223372036854775807] : List Int) : List Int)).bind fun y478 => ((spec_l1Rd_below.f s0_0 t477 4).bind fun bt481 => (if 0 ≤ bt481.1 then (if bt481.1 < (y478.length : Int) then (some (rd y478 bt481.1, bt481.2)) else (none)) else (none)))) = some (r1, r2) := by rw [if_pos rfl] at H; exact H
  obtain ⟨y478, hy478⟩ : ∃ y_ : List Int, y_ = (([wrap64 (a1 - 1), wrap64 (a2 + 1), (-9223372036854775808), 9223372036854775807] : List Int)) := ⟨_, rfl⟩
  replace H : ((spec_l1Rd_below.f s0_0 t477 4).bind fun bt481 => (if 0 ≤ bt481.1 then (if bt481.1 < (y478.length : Int) then (some (rd y478 bt481.1, bt481.2)) else (none)) else (none))) = some (r1, r2) := by first | (rw [hy478]; with_reducible exact H) | (have H2_ := (Option.bind_some _ _).symm.trans H; rw [hy478]; with_reducible exact H2_) | (have H2_ := (Option.bind_some _ _).symm.trans H; with_reducible exact H2_) | with_reducible exact H | (rw [hy478]; exact H) | exact H
  have Ny478 := Aside0.mk hy478
  clear hy478
  replace H := Option.bind_eq_some_iff.mp H
  obtain ⟨⟨t481, t482⟩, A60, H⟩ := H
  replace H : (if 0 ≤ t481 then (if t481 < (y478.length : Int) then (some (rd y478 t481, t482)) else (none)) else (none)) = some (r1, r2) := H
  have A6 := Aside0.mk A60
  clear A60
  by_cases c7 : 0 ≤ t481
  ·rw [if_pos c7] at H
   have c7b0 : decide (0 ≤ t481) = true := decide_eq_true c7
   clear c7
   by_cases c8 : t481 < (y478.length : Int)
   ·rw [if_pos c8] at H
    have c8b0 : decide (t481 < (y478.length : Int)) = true := decide_eq_true c8
    clear c8
    simp only [Option.some.injEq, Prod.mk.injEq] at H
    obtain ⟨rfl, rfl⟩ := H
    go_enter Tryz.func105, Tryz.ntmps105
    go_wp2_with (first | ((with_reducible refine gate_callee (f := 45) rfl ?_); refine goesL_ (some 8) rfl rfl Tryz.func45 (by kernel_rfl) rfl #[.pointer (some ⟨g, 0, none⟩), .int .i64 24] rfl q51_ ?_; (with_reducible refine (spec_l1Rd_once.calls g s0_0 s0_1 24 true t477 w0 _ ?side1 ?side2 A4.out).mono ?_); (case side1 => exact q110_); (case side2 => exact q107_); rintro e w9 ⟨rfl, hi, hb, hk⟩; refine ⟨_, rfl, ?_⟩; have n0_ := Aside0.mk (KeepBut.trans q47_ hk (.inl rfl)); have n1_ := Aside0.mk (hb); have n2_ := Aside0.mk (hi); clear HK; clear HB; clear HI0; have HK := n0_; have HB := n1_; have HI0 := n2_; clear n0_ n1_ n2_; (try clear hb); (try clear hk); (try clear hi)) | ((with_reducible refine gate_dst (N := 13) rfl ?_); refine Kd.R_lit (Kd.int .i64) _ 2 ?hg (N := 13) ?hd (xs := ([wrap64 (a1 - 1), wrap64 (a2 + 1), (-9223372036854775808), 9223372036854775807] : List Int)) (inner := [.int .i64 (wrap64 (a1 - 1)), .int .i64 (wrap64 (a2 + 1)), .int .i64 (-9223372036854775808), .int .i64 9223372036854775807]) (ok := fun _ => True) (okp := fun _ => True) ?hr ?hp (fun _ hk => hk) trivial (Below.refl _ _) (Nat.le_refl _) (by simp) ?_; (case hd => rfl); (case hg => rfl); (case hr => exact q111_); (case hp => exact (Reps.one (show Kd.M (Kd.int .i64) _ _ _ (wrap64 (a1 - 1)) [.int .i64 (wrap64 (a1 - 1))] from rfl) (Reps.one (show Kd.M (Kd.int .i64) _ _ _ (wrap64 (a2 + 1)) [.int .i64 (wrap64 (a2 + 1))] from rfl) (Reps.one (show Kd.M (Kd.int .i64) _ _ _ (-9223372036854775808) [.int .i64 (-9223372036854775808)] from rfl) (Reps.one (show Kd.M (Kd.int .i64) _ _ _ 9223372036854775807 [.int .i64 9223372036854775807] from rfl) (Reps.none _ _)))))); intro v479 w10 ho11 hb hg_ hnew_; clear hg_ hnew_; (first | rw [← Ny478.out] at ho11 | (simp only [Int.reduceToNat] at ho11; rw [← Ny478.out] at ho11)); have n0_ := Aside0.mk (Kd.R_lower ho11 (keep_size (w := w) (g := g) (row := none) q47_)); have n1_ := Aside0.mk (IsS96.below q46_ hb); have n2_ := Aside0.mk (KeepBut.trans q47_ (KeepBut.of_below hb g none) (.inl rfl)); have n3_ := Aside0.mk (below_step q34_ hb); clear HI0; clear HK; clear HB; have HO480 := n0_; have HI0 := n1_; have HK := n2_; have HB := n3_; clear n0_ n1_ n2_ n3_; clear hb ho11) | ((with_reducible refine gate_callee (f := 44) rfl ?_); refine goesL_ (some 15) rfl rfl Tryz.func44 (by kernel_rfl) rfl #[.pointer (some ⟨g, 0, none⟩), .int .i64 4] rfl q51_ ?_; (with_reducible refine (spec_l1Rd_below.calls g s0_0 t477 4 t481 t482 w0 _ ?side1 ?side2 A6.out).mono ?_); (case side1 => exact q110_); (case side2 => exact q107_); rintro e w12 ⟨rfl, hi, hb, hk⟩; refine ⟨_, rfl, ?_⟩; have n0_ := Aside0.mk (Kd.R_mono (Kd.R_keep (IsS96.apart (show IsS96 w0 _ g s0_0 t477 from by repeat (first | (with_reducible first | exact HI0.out | apply IsS96.alloc | apply IsS96.drewN | apply IsS96.drew | apply IsS96.set_1) | exact HI0.out)) (by (with_reducible repeat (first | apply Kd.R_alloc | apply Kd.R_drewN | apply Kd.R_drew)); exact HO480.out) (by decide)) hk (fun _ h => h.2)) (fun _ h => h.1)); have n1_ := Aside0.mk (KeepBut.trans q47_ hk (.inl rfl)); have n2_ := Aside0.mk (hb); have n3_ := Aside0.mk (hi); clear HO480; clear HK; clear HB; clear HI0; have HO480 := n0_; have HK := n1_; have HB := n2_; have HI0 := n3_; clear n0_ n1_ n2_ n3_; (try clear hb); (try clear hk); (try clear hi); obtain ⟨Ao13, co13, eo13⟩ := Kd.R_slice HO480.out; subst eo13; have p483 : 0 ≤ (t481 : Int) := of_decide_eq_true q82_; have q483 : t481 < (y478.length : Int) := of_decide_eq_true q82_; obtain ⟨ad483, e483, hx483_0⟩ := Kd.at_int (Kd.R_reads' HO480.out).2.2 t481 p483 q483; cases e483; replace p483 := eq_true p483; replace q483 := eq_true q483))
    go_ret
    exact ⟨q54_, q46_, q34_, q47_⟩
   ·rw [if_neg c8] at H
    exact absurd H (by simp)
  ·rw [if_neg c7] at H
   exact absurd H (by simp)
 ·replace c5 := Bool.eq_false_iff.mpr c5
  subst c5
  replace H : ((spec_l1Rd_near.f k s0_0 t477 a1 a2).bind fun bt484 => (some (bt484.1, bt484.2))) = some (r1, r2) := by rw [if_neg (show ¬ (false = true) by decide)] at H; exact H
  replace H := Option.bind_eq_some_iff.mp H
  obtain ⟨⟨t484, t485⟩, A140, H⟩ := H
  replace H : (some (t484, t485)) = some (r1, r2) := H
  have A14 := Aside0.mk A140
  clear A140
  simp only [Option.some.injEq, Prod.mk.injEq] at H
  obtain ⟨rfl, rfl⟩ := H
  go_enter Tryz.func105, Tryz.ntmps105
  go_wp2_with (first | ((with_reducible refine gate_callee (f := 45) rfl ?_); refine goesL_ (some 8) rfl rfl Tryz.func45 (by kernel_rfl) rfl #[.pointer (some ⟨g, 0, none⟩), .int .i64 24] rfl q51_ ?_; (with_reducible refine (spec_l1Rd_once.calls g s0_0 s0_1 24 false t477 w0 _ ?side1 ?side2 A4.out).mono ?_); (case side1 => exact q110_); (case side2 => exact q107_); rintro e w15 ⟨rfl, hi, hb, hk⟩; refine ⟨_, rfl, ?_⟩; have n0_ := Aside0.mk (KeepBut.trans q47_ hk (.inl rfl)); have n1_ := Aside0.mk (hb); have n2_ := Aside0.mk (hi); clear HK; clear HB; clear HI0; have HK := n0_; have HB := n1_; have HI0 := n2_; clear n0_ n1_ n2_; (try clear hb); (try clear hk); (try clear hi)) | ((with_reducible refine gate_callee (f := 134) rfl ?_); refine goesL_ (some 21) rfl rfl Tryz.func134 (by kernel_rfl) rfl #[.pointer (some ⟨g, 0, none⟩), .int .i64 a1, .int .i64 a2] rfl q51_ ?_; (with_reducible refine (spec_l1Rd_near.calls k g s0_0 t477 a1 a2 t484 t485 w0 _ ?side1 ?side2 A14.out).mono ?_); (case side1 => exact q110_); (case side2 => exact q107_); rintro e w16 ⟨rfl, hi, hb, hk⟩; refine ⟨_, rfl, ?_⟩; have n0_ := Aside0.mk (KeepBut.trans q47_ hk (.inl rfl)); have n1_ := Aside0.mk (hb); have n2_ := Aside0.mk (hi); clear HK; clear HB; clear HI0; have HK := n0_; have HB := n1_; have HI0 := n2_; clear n0_ n1_ n2_; (try clear hb); (try clear hk); (try clear hi)))
  go_ret
  exact ⟨q54_, q46_, q34_, q47_⟩
mutual
def spec_l1Rd_ins.j1 : Nat → List Int → Int → Int → Bool → Int → Option (Int × Bool × Int × Int)
 | 0, _, _, _, _, _ => none
 | k + 1, x1000, x1001, x492000, x492001, x492002 => (spec_l1Rd_once.f x1000 x1001 40).bind fun bt499 => (if bt499.1 = true then ((spec_l1Rd_off.f k x1000 bt499.2 0 255).bind fun bt501 => (some (x492000, x492001, bt501.1, bt501.2))) else (some (x492000, x492001, x492002, bt499.2)))
def spec_l1Rd_ins.j0 : Nat → Bool → List Int → Int → Int → Bool → Int → Option (Int × Bool × Int × Int)
 | 0, _, _, _, _, _, _ => none
 | k + 1, x26, x1000, x1001, x492000, x492001, x492002 => if x26 = true then ((spec_l1Rd_byte.f x1000 x1001).bind fun bt497 => (spec_l1Rd_ins.j1 k x1000 bt497.2 x492000 x492001 bt497.1)) else (spec_l1Rd_ins.j1 k x1000 x1001 x492000 x492001 x492002)
end
def spec_l1Rd_ins.f (k : Nat) (s0_0 : List Int) (s0_1 : Int) : Option (Int × Bool × Int × Int) := (spec_l1Rd_below.f s0_0 s0_1 256).bind fun bt487 => ((spec_l1Rd_once.f s0_0 bt487.2 4).bind fun bt489 => ((spec_l3Template.f k bt487.1 bt489.1).bind fun t492 => ((spec_l3Hole.f k t492).bind fun bt493 => (if bt493.2.toList = ([110, 49, 54] : List UInt8) then ((spec_l1Rd_below.f s0_0 bt489.2 65536).bind fun bt495 => (spec_l1Rd_ins.j1 k s0_0 bt495.2 bt487.1 bt489.1 bt495.1)) else (if bt493.2.toList = ([110, 56] : List UInt8) then (spec_l1Rd_ins.j0 k (bt493.2.toList == ([110, 56] : List UInt8)) s0_0 bt489.2 bt487.1 bt489.1 0) else (spec_l1Rd_ins.j0 k (bt493.2.toList == ([101, 56] : List UInt8)) s0_0 bt489.2 bt487.1 bt489.1 0))))))
theorem spec_l1Rd_ins.mono_l : ∀ k, (∀ y0 y1 y2 y3 y4, LeO (spec_l1Rd_ins.j1 k y0 y1 y2 y3 y4) (spec_l1Rd_ins.j1 (k + 1) y0 y1 y2 y3 y4)) ∧ (∀ y0 y1 y2 y3 y4 y5, LeO (spec_l1Rd_ins.j0 k y0 y1 y2 y3 y4 y5) (spec_l1Rd_ins.j0 (k + 1) y0 y1 y2 y3 y4 y5))
 | 0 => ⟨fun _ _ _ _ _ r h => by simp [spec_l1Rd_ins.j1] at h, fun _ _ _ _ _ _ r h => by simp [spec_l1Rd_ins.j0] at h⟩
 | k + 1 => by
  obtain ⟨ih0, ih1⟩ := spec_l1Rd_ins.mono_l k
  refine ⟨?_, ?_⟩
  ·intro y0 y1 y2 y3 y4
   unfold spec_l1Rd_ins.j1
   repeat' first
   | (with_reducible first | exact ih0 _ _ _ _ _ | exact ih1 _ _ _ _ _ _ | exact spec_l1Rd_off.mono _ _ _ _ _ | exact spec_l3Hole.mono _ _ | exact spec_l3Template.mono _ _ _ | exact LeO.refl _ | exact LeO.none _ | refine LeO.ite ?_ ?_ | refine LeO.bind ?_ (fun _ => ?_))
   | exact ih0 _ _ _ _ _
   | exact ih1 _ _ _ _ _ _
   | exact spec_l1Rd_off.mono _ _ _ _ _
   | exact spec_l3Hole.mono _ _
   | exact spec_l3Template.mono _ _ _
   | exact LeO.none _
   | refine LeO.ite ?_ ?_
   | refine LeO.bind ?_ (fun _ => ?_)
  ·intro y0 y1 y2 y3 y4 y5
   unfold spec_l1Rd_ins.j0
   repeat' first
   | (with_reducible first | exact ih0 _ _ _ _ _ | exact ih1 _ _ _ _ _ _ | exact spec_l1Rd_off.mono _ _ _ _ _ | exact spec_l3Hole.mono _ _ | exact spec_l3Template.mono _ _ _ | exact LeO.refl _ | exact LeO.none _ | refine LeO.ite ?_ ?_ | refine LeO.bind ?_ (fun _ => ?_))
   | exact ih0 _ _ _ _ _
   | exact ih1 _ _ _ _ _ _
   | exact spec_l1Rd_off.mono _ _ _ _ _
   | exact spec_l3Hole.mono _ _
   | exact spec_l3Template.mono _ _ _
   | exact LeO.none _
   | refine LeO.ite ?_ ?_
   | refine LeO.bind ?_ (fun _ => ?_)
theorem spec_l1Rd_ins.mono : ∀ a0 a1 k, LeO (spec_l1Rd_ins.f k a0 a1) (spec_l1Rd_ins.f (k + 1) a0 a1) := by
 intro a0 a1 k
 obtain ⟨ih0, ih1⟩ := spec_l1Rd_ins.mono_l k
 unfold spec_l1Rd_ins.f
 repeat' first
   | (with_reducible first | exact ih0 _ _ _ _ _ | exact ih1 _ _ _ _ _ _ | exact spec_l1Rd_off.mono _ _ _ _ _ | exact spec_l3Hole.mono _ _ | exact spec_l3Template.mono _ _ _ | exact LeO.refl _ | exact LeO.none _ | refine LeO.ite ?_ ?_ | refine LeO.bind ?_ (fun _ => ?_))
   | exact ih0 _ _ _ _ _
   | exact ih1 _ _ _ _ _ _
   | exact spec_l1Rd_off.mono _ _ _ _ _
   | exact spec_l3Hole.mono _ _
   | exact spec_l3Template.mono _ _ _
   | exact LeO.none _
   | refine LeO.ite ?_ ?_
   | refine LeO.bind ?_ (fun _ => ?_)
theorem spec_l1Rd_ins.calls (k : Nat) (g : Nat) (s0_0 : List Int) (s0_1 : Int) (r1 : Int) (r2 : Bool) (r3 : Int) (r4 : Int) (w0 w : World) (hI : IsS96 w0 w g s0_0 s0_1) (hB : Below w0.heap.size w0 w) (h : spec_l1Rd_ins.f k s0_0 s0_1 = some (r1, r2, r3, r4)) :
  Calls Tryz.prog 62 #[.pointer (some ⟨g, 0, none⟩)] w fun e w' => e = .returned (.agg #[.int .i64 r1, .bool r2, .int .i64 r3]) ∧ IsS96 w0 w' g s0_0 r4 ∧ Below w0.heap.size w0 w' ∧ KeepBut w w' g none := by
 have hu30 := Tryz.underlying30
 have HI0 := Aside0.mk hI
 have HK := Aside0.mk (KeepBut.refl w g none)
 have HL := Aside0.mk hB.size
 clear hI
 have HW0 := Aside0.mk hB.size
 have HB := Aside0.mk hB
 clear hB
 have H : ((spec_l1Rd_below.f s0_0 s0_1 256).bind fun bt487 => ((spec_l1Rd_once.f s0_0 bt487.2 4).bind fun bt489 => ((spec_l3Template.f k bt487.1 bt489.1).bind fun t492 => ((spec_l3Hole.f k t492).bind fun bt493 => (if bt493.2.toList = ([110, 49, 54] : List UInt8) then ((spec_l1Rd_below.f s0_0 bt489.2 65536).bind fun bt495 => (spec_l1Rd_ins.j1 k s0_0 bt495.2 bt487.1 bt489.1 bt495.1)) else (if bt493.2.toList = ([110, 56] : List UInt8) then (spec_l1Rd_ins.j0 k (bt493.2.toList == ([110, 56] : List UInt8)) s0_0 bt489.2 bt487.1 bt489.1 0) else (spec_l1Rd_ins.j0 k (bt493.2.toList == ([101, 56] : List UInt8)) s0_0 bt489.2 bt487.1 bt489.1 0))))))) = some (r1, r2, r3, r4) := h
 clear h
 replace H := Option.bind_eq_some_iff.mp H
 obtain ⟨⟨t487, t488⟩, A20, H⟩ := H
 replace H : ((spec_l1Rd_once.f s0_0 t488 4).bind fun bt489 => ((spec_l3Template.f k t487 bt489.1).bind fun t492 => ((spec_l3Hole.f k t492).bind fun bt493 => (if bt493.2.toList = ([110, 49, 54] : List UInt8) then ((spec_l1Rd_below.f s0_0 bt489.2 65536).bind fun bt495 => (spec_l1Rd_ins.j1 k s0_0 bt495.2 t487 bt489.1 bt495.1)) else (if bt493.2.toList = ([110, 56] : List UInt8) then (spec_l1Rd_ins.j0 k (bt493.2.toList == ([110, 56] : List UInt8)) s0_0 bt489.2 t487 bt489.1 0) else (spec_l1Rd_ins.j0 k (bt493.2.toList == ([101, 56] : List UInt8)) s0_0 bt489.2 t487 bt489.1 0)))))) = some (r1, r2, r3, r4) := H
 have A2 := Aside0.mk A20
 clear A20
 replace H := Option.bind_eq_some_iff.mp H
 obtain ⟨⟨t489, t490⟩, A30, H⟩ := H
 replace H : ((spec_l3Template.f k t487 t489).bind fun t492 => ((spec_l3Hole.f k t492).bind fun bt493 => (if bt493.2.toList = ([110, 49, 54] : List UInt8) then ((spec_l1Rd_below.f s0_0 t490 65536).bind fun bt495 => (spec_l1Rd_ins.j1 k s0_0 bt495.2 t487 t489 bt495.1)) else (if bt493.2.toList = ([110, 56] : List UInt8) then (spec_l1Rd_ins.j0 k (bt493.2.toList == ([110, 56] : List UInt8)) s0_0 t490 t487 t489 0) else (spec_l1Rd_ins.j0 k (bt493.2.toList == ([101, 56] : List UInt8)) s0_0 t490 t487 t489 0))))) = some (r1, r2, r3, r4) := H
 have A3 := Aside0.mk A30
 clear A30
 replace H := Option.bind_eq_some_iff.mp H
 obtain ⟨t492, A40, H⟩ := H
 have A4 := Aside0.mk A40
 clear A40
 replace H := Option.bind_eq_some_iff.mp H
 obtain ⟨⟨t493, t494⟩, A50, H⟩ := H
 replace H : (if t494.toList = ([110, 49, 54] : List UInt8) then ((spec_l1Rd_below.f s0_0 t490 65536).bind fun bt495 => (spec_l1Rd_ins.j1 k s0_0 bt495.2 t487 t489 bt495.1)) else (if t494.toList = ([110, 56] : List UInt8) then (spec_l1Rd_ins.j0 k (t494.toList == ([110, 56] : List UInt8)) s0_0 t490 t487 t489 0) else (spec_l1Rd_ins.j0 k (t494.toList == ([101, 56] : List UInt8)) s0_0 t490 t487 t489 0))) = some (r1, r2, r3, r4) := H
 have A5 := Aside0.mk A50
 clear A50
 have HC6 := Aside0.mk H
 clear H
 go_enter Tryz.func62, Tryz.ntmps62
 go_upto_block 0 with (first | ((with_reducible refine gate_dst (N := 2) rfl ?_); refine box_event ?hg (N := 2) ?hd (cs := #[.int .i64 0, .bool false, .int .i64 0]) (t := 30) ?hr ?_; (case hd => rfl); (case hg => rfl); (case hr => exact q111_); intro gb486 hg w7 hbox hb; have n0_ := Aside0.mk (IsS96.below q46_ hb); have n1_ := Aside0.mk (KeepBut.trans q47_ (KeepBut.of_below hb g none) (.inl rfl)); have n2_ := Aside0.mk (below_step q34_ hb); have n3_ := Aside0.mk (hbox); have n4_ := Aside0.mk ((q17_ : w.heap.size ≤ gb486)); have n5_ := Aside0.mk ((Nat.le_trans HW0.out (q17_ : w.heap.size ≤ gb486) : w0.heap.size ≤ gb486)); have n6_ := Aside0.mk ((by rw [hg]; exact Nat.ne_of_lt (IsS96.lt (show IsS96 w0 _ g s0_0 s0_1 from by repeat (first | (with_reducible first | exact HI0.out | apply IsS96.alloc | apply IsS96.drewN | apply IsS96.drew | apply IsS96.set_1) | exact HI0.out))) : g ≠ gb486)); have n7_ := Aside0.mk ((by rw [hg]; exact Nat.ne_of_gt (IsS96.lt (show IsS96 w0 _ g s0_0 s0_1 from by repeat (first | (with_reducible first | exact HI0.out | apply IsS96.alloc | apply IsS96.drewN | apply IsS96.drew | apply IsS96.set_1) | exact HI0.out))) : gb486 ≠ g)); clear HI0; clear HK; clear HB; have HI0 := n0_; have HK := n1_; have HB := n2_; have BK486 := n3_; have GW486 := n4_; have GE486 := n5_; have NB0_486 := n6_; have NB486_0 := n7_; clear n0_ n1_ n2_ n3_ n4_ n5_ n6_ n7_; clear hb hbox hg) | ((with_reducible refine gate_callee (f := 44) rfl ?_); refine goesL_ (some 7) rfl rfl Tryz.func44 (by kernel_rfl) rfl #[.pointer (some ⟨g, 0, none⟩), .int .i64 256] rfl q51_ ?_; (with_reducible refine (spec_l1Rd_below.calls g s0_0 s0_1 256 t487 t488 w0 _ ?side1 ?side2 A2.out).mono ?_); (case side1 => exact q105_); (case side2 => exact q104_); rintro e w8 ⟨rfl, hi, hb, hk⟩; refine ⟨_, rfl, ?_⟩; have n0_ := Aside0.mk (KeepBut.blk hk (g' := gb486) (o := .cells #[.int .i64 0, .bool false, .int .i64 0] 30 (0, 0)) q61_ NB486_0.out (by simp)); have n1_ := Aside0.mk (KeepBut.trans q31_ hk (.inl rfl)); have n2_ := Aside0.mk (hb); have n3_ := Aside0.mk (hi); clear BK486; clear HK; clear HB; clear HI0; have BK486 := n0_; have HK := n1_; have HB := n2_; have HI0 := n3_; clear n0_ n1_ n2_ n3_; (try clear hb); (try clear hk); (try clear hi)) | ((with_reducible refine gate_callee (f := 45) rfl ?_); refine goesL_ (some 9) rfl rfl Tryz.func45 (by kernel_rfl) rfl #[.pointer (some ⟨g, 0, none⟩), .int .i64 4] rfl q51_ ?_; (with_reducible refine (spec_l1Rd_once.calls g s0_0 t488 4 t489 t490 w0 _ ?side1 ?side2 A3.out).mono ?_); (case side1 => exact q105_); (case side2 => exact q104_); rintro e w9 ⟨rfl, hi, hb, hk⟩; refine ⟨_, rfl, ?_⟩; have n0_ := Aside0.mk (KeepBut.blk hk (g' := gb486) (o := .cells #[.int .i64 0, .bool false, .int .i64 0] 30 (0, 0)) q61_ NB486_0.out (by simp)); have n1_ := Aside0.mk (KeepBut.trans q31_ hk (.inl rfl)); have n2_ := Aside0.mk (hb); have n3_ := Aside0.mk (hi); clear BK486; clear HK; clear HB; clear HI0; have BK486 := n0_; have HK := n1_; have HB := n2_; have HI0 := n3_; clear n0_ n1_ n2_ n3_; (try clear hb); (try clear hk); (try clear hi)) | ((with_reducible refine gate_dst (N := 3) rfl ?_); refine box_event ?hg (N := 3) ?hd (cs := #[.int .i64 0, .bool false, .int .i64 0]) (t := 30) ?hr ?_; (case hd => rfl); (case hg => rfl); (case hr => exact q111_); intro gb491 hg w10 hbox hb; have n0_ := Aside0.mk (IsS96.below (by repeat (first | (with_reducible first | exact HI0.out | apply IsS96.alloc | apply IsS96.drewN | apply IsS96.drew | apply IsS96.set_1 | refine IsS96.far ?_ NB0_486.out _) | exact HI0.out)) hb); have n1_ := Aside0.mk (blk_below (g := gb486) (o := .cells #[.int .i64 0, .bool false, .int .i64 0] 30 (0, 0)) q61_ hb); have n2_ := Aside0.mk (KeepBut.trans q31_ (KeepBut.of_below hb g none) (.inl rfl)); have n3_ := Aside0.mk (below_step (by repeat (first | (with_reducible first | exact HB.out | apply below_alloc | apply pw_below_drewN | apply below_drew1 | refine below_set ?_ (IsS96.ge HI0.out) | refine below_set ?_ GE486.out) | exact HB.out)) hb); have n4_ := Aside0.mk (hbox); have n5_ := Aside0.mk ((q9_ : w.heap.size ≤ gb491)); have n6_ := Aside0.mk ((Nat.le_trans HW0.out (q9_ : w.heap.size ≤ gb491) : w0.heap.size ≤ gb491)); have n7_ := Aside0.mk ((by rw [hg]; exact Nat.ne_of_lt (blk_lt (g := gb486) (o := .cells #[.int .i64 0, .bool false, .int .i64 0] 30 (0, 0)) q61_) : gb486 ≠ gb491)); have n8_ := Aside0.mk ((by rw [hg]; exact Nat.ne_of_gt (blk_lt (g := gb486) (o := .cells #[.int .i64 0, .bool false, .int .i64 0] 30 (0, 0)) q61_) : gb491 ≠ gb486)); have n9_ := Aside0.mk ((by rw [hg]; exact Nat.ne_of_lt (IsS96.lt (show IsS96 w0 _ g s0_0 t490 from by repeat (first | (with_reducible first | exact HI0.out | apply IsS96.alloc | apply IsS96.drewN | apply IsS96.drew | apply IsS96.set_1 | refine IsS96.far ?_ NB0_486.out _) | exact HI0.out))) : g ≠ gb491)); have n10_ := Aside0.mk ((by rw [hg]; exact Nat.ne_of_gt (IsS96.lt (show IsS96 w0 _ g s0_0 t490 from by repeat (first | (with_reducible first | exact HI0.out | apply IsS96.alloc | apply IsS96.drewN | apply IsS96.drew | apply IsS96.set_1 | refine IsS96.far ?_ NB0_486.out _) | exact HI0.out))) : gb491 ≠ g)); clear HI0; clear BK486; clear HK; clear HB; have HI0 := n0_; have BK486 := n1_; have HK := n2_; have HB := n3_; have BK491 := n4_; have GW491 := n5_; have GE491 := n6_; have NB486_491 := n7_; have NB491_486 := n8_; have NB0_491 := n9_; have NB491_0 := n10_; clear n0_ n1_ n2_ n3_ n4_ n5_ n6_ n7_ n8_ n9_ n10_; clear hb hbox hg; have hnb11 := NB491_486.out; have hnc11 := NB486_491.out; have hnb12 := NB491_0.out; have hnc12 := NB0_491.out; have hcz13_0 : w10.cell? ⟨gb491, 0, none⟩ = some (.int .i64 0) := (blk_cell BK491.out 0).trans rfl; have hcz13_1 : w10.cell? ⟨gb491, 1, none⟩ = some (.bool false) := (blk_cell BK491.out 1).trans rfl; have hcz13_2 : w10.cell? ⟨gb491, 2, none⟩ = some (.int .i64 0) := (blk_cell BK491.out 2).trans rfl; have hfz13_0 := blk_frozen BK491.out 0; have hfz13_1 := blk_frozen BK491.out 1; have hfz13_2 := blk_frozen BK491.out 2) | ((with_reducible refine gate_callee (f := 60) rfl ?_); refine goesL_ (some 16) rfl rfl Tryz.func60 (by kernel_rfl) rfl #[.int .i64 t487, .bool t489] rfl q51_ ?_; (with_reducible refine (spec_l3Template.calls k t487 t489 t492 _ A4.out).mono ?_); rintro e w14 ⟨rfl, hb⟩; refine ⟨_, rfl, ?_⟩; have n0_ := Aside0.mk (IsS96.below (show IsS96 w0 (((w10.setCell ⟨gb491, 0, none⟩ (.int .i64 t487)).setCell ⟨gb491, 1, none⟩ (.bool t489)).setCell ⟨gb491, 2, none⟩ (.int .i64 0)) g s0_0 t490 from by repeat (first | (with_reducible first | exact HI0.out | apply IsS96.alloc | apply IsS96.drewN | apply IsS96.drew | apply IsS96.set_1 | refine IsS96.far ?_ NB0_486.out _ | refine IsS96.far ?_ NB0_491.out _) | exact HI0.out)) hb); have n1_ := Aside0.mk (blk_below (g := gb486) (o := .cells #[.int .i64 0, .bool false, .int .i64 0] 30 (0, 0)) (by (with_reducible repeat (first | refine blk_drewN ?_ _ | refine blk_drew ?_ | refine blk_alloc ?_ _)); refine blk_far ?_ NB486_491.out _; (with_reducible repeat (first | refine blk_drewN ?_ _ | refine blk_drew ?_ | refine blk_alloc ?_ _)); refine blk_far ?_ NB486_491.out _; (with_reducible repeat (first | refine blk_drewN ?_ _ | refine blk_drew ?_ | refine blk_alloc ?_ _)); refine blk_far ?_ NB486_491.out _; (with_reducible repeat (first | refine blk_drewN ?_ _ | refine blk_drew ?_ | refine blk_alloc ?_ _)); exact BK486.out) hb); have n2_ := Aside0.mk (blk_below (g := gb491) (o := .cells #[.int .i64 t487, .bool t489, .int .i64 0] 30 (0, 0)) (by (with_reducible repeat (first | refine blk_drewN ?_ _ | refine blk_drew ?_ | refine blk_alloc ?_ _)); refine blk_put (cs := #[.int .i64 t487, .bool t489, .int .i64 0]) ?_ 2 _ rfl; (with_reducible repeat (first | refine blk_drewN ?_ _ | refine blk_drew ?_ | refine blk_alloc ?_ _)); refine blk_put (cs := #[.int .i64 t487, .bool false, .int .i64 0]) ?_ 1 _ rfl; (with_reducible repeat (first | refine blk_drewN ?_ _ | refine blk_drew ?_ | refine blk_alloc ?_ _)); refine blk_put (cs := #[.int .i64 0, .bool false, .int .i64 0]) ?_ 0 _ rfl; (with_reducible repeat (first | refine blk_drewN ?_ _ | refine blk_drew ?_ | refine blk_alloc ?_ _)); exact BK491.out) hb); have n3_ := Aside0.mk (KeepBut.trans q16_ (KeepBut.of_below hb g none) (.inl rfl)); have n4_ := Aside0.mk (below_step q10_ hb); clear HI0; clear BK486; clear BK491; clear HK; clear HB; have HI0 := n0_; have BK486 := n1_; have BK491 := n2_; have HK := n3_; have HB := n4_; clear n0_ n1_ n2_ n3_ n4_; (try clear hb)) | ((with_reducible refine gate_callee (f := 59) rfl ?_); refine goesL_ (some 17) rfl rfl Tryz.func59 (by kernel_rfl) rfl #[.string t492] rfl q51_ ?_; (with_reducible refine (spec_l3Hole.calls k t492 t493 t494 _ A5.out).mono ?_); rintro e w15 ⟨rfl, hb⟩; refine ⟨_, rfl, ?_⟩; have n0_ := Aside0.mk (IsS96.below q15_ hb); have n1_ := Aside0.mk (blk_below (g := gb486) (o := .cells #[.int .i64 0, .bool false, .int .i64 0] 30 (0, 0)) q61_ hb); have n2_ := Aside0.mk (blk_below (g := gb491) (o := .cells #[.int .i64 t487, .bool t489, .int .i64 0] 30 (0, 0)) q62_ hb); have n3_ := Aside0.mk (KeepBut.trans q16_ (KeepBut.of_below hb g none) (.inl rfl)); have n4_ := Aside0.mk (below_step q10_ hb); clear HI0; clear BK486; clear BK491; clear HK; clear HB; have HI0 := n0_; have BK486 := n1_; have BK491 := n2_; have HK := n3_; have HB := n4_; clear n0_ n1_ n2_ n3_ n4_; (try clear hb)))
 (try simp only [Act.put, List.setIfInBounds_toArray, List.set_cons_zero, List.set_cons_succ])
 go_cut [] (fun wc => ∃ (kq : Nat) (x1001_5 : Int) (x492002_5 : Int), Aside0 (spec_l1Rd_ins.j1 kq s0_0 x1001_5 t487 t489 x492002_5 = some (r1, r2, r3, r4)) ∧ Aside0 (kq ≤ k) ∧ Aside0 (wc.heap[gb486]? = some (.cells #[.int .i64 0, .bool false, .int .i64 0] 30 (0, 0))) ∧ Aside0 (wc.heap[gb491]? = some (.cells #[.int .i64 t487, .bool t489, .int .i64 x492002_5] 30 (0, 0))) ∧ Aside0 (IsS96 w0 wc g s0_0 x1001_5) ∧ Aside0 (KeepBut w wc g none) ∧ Aside0 (Below w0.heap.size w0 wc))
 case first =>
  have H := HC6.out
  clear HC6
  by_cases c16 : t494.toList = ([110, 49, 54] : List UInt8)
  ·rw [if_pos c16] at H
   have c16b0 : (t494.toList == ([110, 49, 54] : List UInt8)) = true := beq_iff_eq.mpr c16
   have c16b1 : (t494.toList != ([110, 49, 54] : List UInt8)) = false := bne_eq_false_iff_eq.mpr c16
   clear c16
   (first | rw [c16b0] | (simp only [i64_w, i32_w]; rw [c16b0]) | skip)
   replace H := Option.bind_eq_some_iff.mp H
   obtain ⟨⟨t495, t496⟩, A170, H⟩ := H
   replace H : (spec_l1Rd_ins.j1 k s0_0 t496 t487 t489 t495) = some (r1, r2, r3, r4) := H
   have A17 := Aside0.mk A170
   clear A170
   have H' := Aside0.mk H
   clear H
   go_wp2_with (first | ((with_reducible refine gate_callee (f := 44) rfl ?_); refine goesL_ (some 24) rfl rfl Tryz.func44 (by kernel_rfl) rfl #[.pointer (some ⟨g, 0, none⟩), .int .i64 65536] rfl q51_ ?_; (with_reducible refine (spec_l1Rd_below.calls g s0_0 t490 65536 t495 t496 w0 _ ?side1 ?side2 A17.out).mono ?_); (case side1 => exact q103_); (case side2 => exact q102_); rintro e w18 ⟨rfl, hi, hb, hk⟩; refine ⟨_, rfl, ?_⟩; have n0_ := Aside0.mk (KeepBut.blk hk (g' := gb486) (o := .cells #[.int .i64 0, .bool false, .int .i64 0] 30 (0, 0)) q61_ NB486_0.out (by simp)); have n1_ := Aside0.mk (KeepBut.blk hk (g' := gb491) (o := .cells #[.int .i64 t487, .bool t489, .int .i64 0] 30 (0, 0)) q62_ NB491_0.out (by simp)); have n2_ := Aside0.mk (KeepBut.trans q16_ hk (.inl rfl)); have n3_ := Aside0.mk (hb); have n4_ := Aside0.mk (hi); clear BK486; clear BK491; clear HK; clear HB; clear HI0; have BK486 := n0_; have BK491 := n1_; have HK := n2_; have HB := n3_; have HI0 := n4_; clear n0_ n1_ n2_ n3_ n4_; (try clear hb); (try clear hk); (try clear hi); have hnb19 := NB491_486.out; have hnc19 := NB486_491.out; have hnb20 := NB491_0.out; have hnc20 := NB0_491.out; have hcz21_0 : w18.cell? ⟨gb491, 0, none⟩ = some (.int .i64 t487) := (blk_cell BK491.out 0).trans rfl; have hcz21_1 : w18.cell? ⟨gb491, 1, none⟩ = some (.bool t489) := (blk_cell BK491.out 1).trans rfl; have hcz21_2 : w18.cell? ⟨gb491, 2, none⟩ = some (.int .i64 0) := (blk_cell BK491.out 2).trans rfl; have hfz21_0 := blk_frozen BK491.out 0; have hfz21_1 := blk_frozen BK491.out 1; have hfz21_2 := blk_frozen BK491.out 2))
   go_meet
   case rel => exact ⟨_, (t496), (t495), H', ⟨q94_⟩, ⟨q8_⟩, ⟨q5_⟩, ⟨q15_⟩, ⟨q16_⟩, ⟨q10_⟩⟩
  ·rw [if_neg c16] at H
   have c16b0 : (t494.toList == ([110, 49, 54] : List UInt8)) = false := beq_eq_false_iff_ne.mpr c16
   have c16b1 : (t494.toList != ([110, 49, 54] : List UInt8)) = true := bne_iff_ne.mpr c16
   (first | rw [c16b0] | (simp only [i64_w, i32_w]; rw [c16b0]) | skip)
   have HC22 := Aside0.mk H
   clear H
   go_upto_if 26 with (fail)
   go_cut [26] (fun v26 wc => ∃ (kq : Nat) (x26_21 : Bool), v26 = .bool x26_21 ∧ Aside0 (spec_l1Rd_ins.j0 kq x26_21 s0_0 t490 t487 t489 0 = some (r1, r2, r3, r4)) ∧ Aside0 (kq ≤ k) ∧ Aside0 (wc.heap[gb486]? = some (.cells #[.int .i64 0, .bool false, .int .i64 0] 30 (0, 0))) ∧ Aside0 (wc.heap[gb491]? = some (.cells #[.int .i64 t487, .bool t489, .int .i64 0] 30 (0, 0))) ∧ Aside0 (IsS96 w0 wc g s0_0 t490) ∧ Aside0 (KeepBut w wc g none) ∧ Aside0 (Below w0.heap.size w0 wc))
   case first =>
    have H := HC22.out
    clear HC22
    by_cases c23 : t494.toList = ([110, 56] : List UInt8)
    ·rw [if_pos c23] at H
     have c23b0 : (t494.toList == ([110, 56] : List UInt8)) = true := beq_iff_eq.mpr c23
     have c23b1 : (t494.toList != ([110, 56] : List UInt8)) = false := bne_eq_false_iff_eq.mpr c23
     clear c23
     (first | rw [c23b0] | (simp only [i64_w, i32_w]; rw [c23b0]) | skip)
     have H' := Aside0.mk H
     clear H
     go_wp2
     go_meet
     case rel => exact ⟨_, ((t494.toList == ([110, 56] : List UInt8))), q68_, H', ⟨q94_⟩, ⟨q61_⟩, ⟨q62_⟩, ⟨q15_⟩, ⟨q16_⟩, ⟨q10_⟩⟩
    ·rw [if_neg c23] at H
     have c23b0 : (t494.toList == ([110, 56] : List UInt8)) = false := beq_eq_false_iff_ne.mpr c23
     have c23b1 : (t494.toList != ([110, 56] : List UInt8)) = true := bne_iff_ne.mpr c23
     (first | rw [c23b0] | (simp only [i64_w, i32_w]; rw [c23b0]) | skip)
     have H' := Aside0.mk H
     clear H
     go_wp2
     go_meet
     case rel => exact ⟨_, ((t494.toList == ([101, 56] : List UInt8))), q68_, H', ⟨q94_⟩, ⟨q61_⟩, ⟨q62_⟩, ⟨q15_⟩, ⟨q16_⟩, ⟨q10_⟩⟩
   case rest =>
    clear HC22
    try clear c1
    try clear c2
    try clear p2
    try clear c4
    try clear c5
    try clear c6
    try clear p6
    try clear c11
    try clear c12
    try clear c16
    try clear c16b0
    try clear c16b1
    try clear c19
    try clear c20
    try clear c23
    try clear c23b0
    try clear c23b1
    try clear hcz13_0 hcz13_1 hcz13_2
    try clear hcz21_0 hcz21_1 hcz21_2
    try clear hfz13_0 hfz13_1 hfz13_2
    try clear hfz21_0 hfz21_1 hfz21_2
    obtain ⟨kq, x26_21, rfl, HA, HJ21, BK486, BK491, HI0, HK, HB⟩ := hcut
    cases kq with
    | zero => exact absurd HA.out (by simp [spec_l1Rd_ins.j0])
    | succ kj21 =>
     have H := HA.out
     clear HA
     simp only [spec_l1Rd_ins.j0] at H
     by_cases c24 : x26_21 = true
     ·subst c24
      replace H : ((spec_l1Rd_byte.f s0_0 t490).bind fun bt497 => (spec_l1Rd_ins.j1 kj21 s0_0 bt497.2 t487 t489 bt497.1)) = some (r1, r2, r3, r4) := by rw [if_pos rfl] at H; exact H
      replace H := Option.bind_eq_some_iff.mp H
      obtain ⟨⟨t497, t498⟩, A250, H⟩ := H
      replace H : (spec_l1Rd_ins.j1 kj21 s0_0 t498 t487 t489 t497) = some (r1, r2, r3, r4) := H
      have A25 := Aside0.mk A250
      clear A250
      have H' := Aside0.mk H
      clear H
      go_wp2_with (first | ((with_reducible refine gate_callee (f := 104) rfl ?_); refine goesL_ (some 30) rfl rfl Tryz.func104 (by kernel_rfl) rfl #[.pointer (some ⟨g, 0, none⟩)] rfl q51_ ?_; (with_reducible refine (spec_l1Rd_byte.calls g s0_0 t490 t497 t498 w0 _ ?side1 ?side2 A25.out).mono ?_); (case side1 => exact q103_); (case side2 => exact q102_); rintro e w26 ⟨rfl, hi, hb, hk⟩; refine ⟨_, rfl, ?_⟩; have n0_ := Aside0.mk (KeepBut.blk hk (g' := gb486) (o := .cells #[.int .i64 0, .bool false, .int .i64 0] 30 (0, 0)) q61_ NB486_0.out (by simp)); have n1_ := Aside0.mk (KeepBut.blk hk (g' := gb491) (o := .cells #[.int .i64 t487, .bool t489, .int .i64 0] 30 (0, 0)) q62_ NB491_0.out (by simp)); have n2_ := Aside0.mk (KeepBut.trans q16_ hk (.inl rfl)); have n3_ := Aside0.mk (hb); have n4_ := Aside0.mk (hi); clear BK486; clear BK491; clear HK; clear HB; clear HI0; have BK486 := n0_; have BK491 := n1_; have HK := n2_; have HB := n3_; have HI0 := n4_; clear n0_ n1_ n2_ n3_ n4_; (try clear hb); (try clear hk); (try clear hi); have hnb27 := NB491_486.out; have hnc27 := NB486_491.out; have hnb28 := NB491_0.out; have hnc28 := NB0_491.out; have hcz29_0 : w26.cell? ⟨gb491, 0, none⟩ = some (.int .i64 t487) := (blk_cell BK491.out 0).trans rfl; have hcz29_1 : w26.cell? ⟨gb491, 1, none⟩ = some (.bool t489) := (blk_cell BK491.out 1).trans rfl; have hcz29_2 : w26.cell? ⟨gb491, 2, none⟩ = some (.int .i64 0) := (blk_cell BK491.out 2).trans rfl; have hfz29_0 := blk_frozen BK491.out 0; have hfz29_1 := blk_frozen BK491.out 1; have hfz29_2 := blk_frozen BK491.out 2))
      go_meet
      case rel => exact ⟨_, (t498), (t497), H', ⟨by have := HJ21.out; first | omega | exact Nat.le_refl _⟩, ⟨q8_⟩, ⟨q5_⟩, ⟨q15_⟩, ⟨q16_⟩, ⟨q10_⟩⟩
     ·replace c24 := Bool.eq_false_iff.mpr c24
      subst c24
      replace H : (spec_l1Rd_ins.j1 kj21 s0_0 t490 t487 t489 0) = some (r1, r2, r3, r4) := by rw [if_neg (show ¬ (false = true) by decide)] at H; exact H
      have H' := Aside0.mk H
      clear H
      go_wp2
      go_meet
      case rel => exact ⟨_, (t490), (0), H', ⟨by have := HJ21.out; first | omega | exact Nat.le_refl _⟩, ⟨q61_⟩, ⟨q62_⟩, ⟨q15_⟩, ⟨q16_⟩, ⟨q10_⟩⟩
 case rest =>
  clear HC6
  try clear c1
  try clear c2
  try clear p2 p2
  try clear c4
  try clear c5
  try clear c6
  try clear p6 p6
  try clear c10
  try clear c11
  try clear c12
  try clear c16
  try clear c16b0
  try clear c16b1
  try clear c19
  try clear c20
  try clear c23
  try clear c23b0
  try clear c23b1
  try clear c24
  try clear c27
  try clear c28
  try clear hcz13_0 hcz13_1 hcz13_2
  try clear hcz21_0 hcz21_1 hcz21_2
  try clear hcz29_0 hcz29_1 hcz29_2
  try clear hfz13_0 hfz13_1 hfz13_2
  try clear hfz21_0 hfz21_1 hfz21_2
  try clear hfz29_0 hfz29_1 hfz29_2
  obtain ⟨kq, x1001_5, x492002_5, HA, HJ5, BK486, BK491, HI0, HK, HB⟩ := hcut
  cases kq with
  | zero => exact absurd HA.out (by simp [spec_l1Rd_ins.j1])
  | succ kj5 =>
   have H := HA.out
   clear HA
   simp only [spec_l1Rd_ins.j1] at H
   replace H := Option.bind_eq_some_iff.mp H
   obtain ⟨⟨t499, t500⟩, A300, H⟩ := H
   replace H : (if t499 = true then ((spec_l1Rd_off.f kj5 s0_0 t500 0 255).bind fun bt501 => (some (t487, t489, bt501.1, bt501.2))) else (some (t487, t489, x492002_5, t500))) = some (r1, r2, r3, r4) := H
   have A30 := Aside0.mk A300
   clear A300
   by_cases c31 : t499 = true
   ·subst c31
    replace H : ((spec_l1Rd_off.f kj5 s0_0 t500 0 255).bind fun bt501 => (some (t487, t489, bt501.1, bt501.2))) = some (r1, r2, r3, r4) := by rw [if_pos rfl] at H; exact H
    replace H := Option.bind_eq_some_iff.mp H
    obtain ⟨⟨t501, t502⟩, A320, H⟩ := H
    replace H : (some (t487, t489, t501, t502)) = some (r1, r2, r3, r4) := H
    have A32 := Aside0.mk A320
    clear A320
    simp only [Option.some.injEq, Prod.mk.injEq] at H
    obtain ⟨rfl, rfl, rfl, rfl⟩ := H
    go_wp2_with (first | ((with_reducible refine gate_callee (f := 45) rfl ?_); refine goesL_ (some 33) rfl rfl Tryz.func45 (by kernel_rfl) rfl #[.pointer (some ⟨g, 0, none⟩), .int .i64 40] rfl q51_ ?_; (with_reducible refine (spec_l1Rd_once.calls g s0_0 x1001_5 40 true t500 w0 _ ?side1 ?side2 A30.out).mono ?_); (case side1 => exact q103_); (case side2 => exact q102_); rintro e w33 ⟨rfl, hi, hb, hk⟩; refine ⟨_, rfl, ?_⟩; have n0_ := Aside0.mk (KeepBut.blk hk (g' := gb486) (o := .cells #[.int .i64 0, .bool false, .int .i64 0] 30 (0, 0)) q61_ NB486_0.out (by simp)); have n1_ := Aside0.mk (KeepBut.blk hk (g' := gb491) (o := .cells #[.int .i64 t487, .bool t489, .int .i64 x492002_5] 30 (0, 0)) q62_ NB491_0.out (by simp)); have n2_ := Aside0.mk (KeepBut.trans q16_ hk (.inl rfl)); have n3_ := Aside0.mk (hb); have n4_ := Aside0.mk (hi); clear BK486; clear BK491; clear HK; clear HB; clear HI0; have BK486 := n0_; have BK491 := n1_; have HK := n2_; have HB := n3_; have HI0 := n4_; clear n0_ n1_ n2_ n3_ n4_; (try clear hb); (try clear hk); (try clear hi)) | ((with_reducible refine gate_callee (f := 105) rfl ?_); refine goesL_ (some 35) rfl rfl Tryz.func105 (by kernel_rfl) rfl #[.pointer (some ⟨g, 0, none⟩), .int .i64 0, .int .i64 255] rfl q51_ ?_; (with_reducible refine (spec_l1Rd_off.calls kj5 g s0_0 t500 0 255 t501 t502 w0 _ ?side1 ?side2 A32.out).mono ?_); (case side1 => exact q103_); (case side2 => exact q102_); rintro e w34 ⟨rfl, hi, hb, hk⟩; refine ⟨_, rfl, ?_⟩; have n0_ := Aside0.mk (KeepBut.blk hk (g' := gb486) (o := .cells #[.int .i64 0, .bool false, .int .i64 0] 30 (0, 0)) q61_ NB486_0.out (by simp)); have n1_ := Aside0.mk (KeepBut.blk hk (g' := gb491) (o := .cells #[.int .i64 t487, .bool t489, .int .i64 x492002_5] 30 (0, 0)) q62_ NB491_0.out (by simp)); have n2_ := Aside0.mk (KeepBut.trans q16_ hk (.inl rfl)); have n3_ := Aside0.mk (hb); have n4_ := Aside0.mk (hi); clear BK486; clear BK491; clear HK; clear HB; clear HI0; have BK486 := n0_; have BK491 := n1_; have HK := n2_; have HB := n3_; have HI0 := n4_; clear n0_ n1_ n2_ n3_ n4_; (try clear hb); (try clear hk); (try clear hi); have hnb35 := NB491_486.out; have hnc35 := NB486_491.out; have hnb36 := NB491_0.out; have hnc36 := NB0_491.out; have hcz37_0 : w34.cell? ⟨gb491, 0, none⟩ = some (.int .i64 t487) := (blk_cell BK491.out 0).trans rfl; have hcz37_1 : w34.cell? ⟨gb491, 1, none⟩ = some (.bool t489) := (blk_cell BK491.out 1).trans rfl; have hcz37_2 : w34.cell? ⟨gb491, 2, none⟩ = some (.int .i64 x492002_5) := (blk_cell BK491.out 2).trans rfl; have hfz37_0 := blk_frozen BK491.out 0; have hfz37_1 := blk_frozen BK491.out 1; have hfz37_2 := blk_frozen BK491.out 2; have hnb38 := NB486_0.out; have hnc38 := NB0_486.out; have hcz39_0 : w34.cell? ⟨gb486, 0, none⟩ = some (.int .i64 0) := (blk_cell BK486.out 0).trans rfl; have hcz39_1 : w34.cell? ⟨gb486, 1, none⟩ = some (.bool false) := (blk_cell BK486.out 1).trans rfl; have hcz39_2 : w34.cell? ⟨gb486, 2, none⟩ = some (.int .i64 0) := (blk_cell BK486.out 2).trans rfl; have hfz39_0 := blk_frozen BK486.out 0; have hfz39_1 := blk_frozen BK486.out 1; have hfz39_2 := blk_frozen BK486.out 2))
    refine bodyPost_ret (results_cell_row rfl _ _ gb486 30 #[.int .i64 t487, .bool t489, .int .i64 t501] (0, 0) _ rfl (by (with_reducible repeat (first | refine blk_drewN ?_ _ | refine blk_drew ?_ | refine blk_alloc ?_ _)); refine blk_put (cs := #[.int .i64 t487, .bool t489, .int .i64 0]) ?_ 2 _ rfl; (with_reducible repeat (first | refine blk_drewN ?_ _ | refine blk_drew ?_ | refine blk_alloc ?_ _)); refine blk_put (cs := #[.int .i64 t487, .bool false, .int .i64 0]) ?_ 1 _ rfl; (with_reducible repeat (first | refine blk_drewN ?_ _ | refine blk_drew ?_ | refine blk_alloc ?_ _)); refine blk_put (cs := #[.int .i64 0, .bool false, .int .i64 0]) ?_ 0 _ rfl; (with_reducible repeat (first | refine blk_drewN ?_ _ | refine blk_drew ?_ | refine blk_alloc ?_ _)); refine blk_far ?_ NB486_491.out _; (with_reducible repeat (first | refine blk_drewN ?_ _ | refine blk_drew ?_ | refine blk_alloc ?_ _)); exact BK486.out) Tryz.underlying30 rfl (by kernel_rfl)) rfl ?_
    exact ⟨q54_, q15_, q10_, q16_⟩
   ·replace c31 := Bool.eq_false_iff.mpr c31
    subst c31
    replace H : (some (t487, t489, x492002_5, t500)) = some (r1, r2, r3, r4) := by rw [if_neg (show ¬ (false = true) by decide)] at H; exact H
    simp only [Option.some.injEq, Prod.mk.injEq] at H
    obtain ⟨rfl, rfl, rfl, rfl⟩ := H
    go_wp2_with (first | ((with_reducible refine gate_callee (f := 45) rfl ?_); refine goesL_ (some 33) rfl rfl Tryz.func45 (by kernel_rfl) rfl #[.pointer (some ⟨g, 0, none⟩), .int .i64 40] rfl q51_ ?_; (with_reducible refine (spec_l1Rd_once.calls g s0_0 x1001_5 40 false t500 w0 _ ?side1 ?side2 A30.out).mono ?_); (case side1 => exact q103_); (case side2 => exact q102_); rintro e w40 ⟨rfl, hi, hb, hk⟩; refine ⟨_, rfl, ?_⟩; have n0_ := Aside0.mk (KeepBut.blk hk (g' := gb486) (o := .cells #[.int .i64 0, .bool false, .int .i64 0] 30 (0, 0)) q61_ NB486_0.out (by simp)); have n1_ := Aside0.mk (KeepBut.blk hk (g' := gb491) (o := .cells #[.int .i64 t487, .bool t489, .int .i64 x492002_5] 30 (0, 0)) q62_ NB491_0.out (by simp)); have n2_ := Aside0.mk (KeepBut.trans q16_ hk (.inl rfl)); have n3_ := Aside0.mk (hb); have n4_ := Aside0.mk (hi); clear BK486; clear BK491; clear HK; clear HB; clear HI0; have BK486 := n0_; have BK491 := n1_; have HK := n2_; have HB := n3_; have HI0 := n4_; clear n0_ n1_ n2_ n3_ n4_; (try clear hb); (try clear hk); (try clear hi); have hnb41 := NB491_486.out; have hnc41 := NB486_491.out; have hnb42 := NB491_0.out; have hnc42 := NB0_491.out; have hcz43_0 : w40.cell? ⟨gb491, 0, none⟩ = some (.int .i64 t487) := (blk_cell BK491.out 0).trans rfl; have hcz43_1 : w40.cell? ⟨gb491, 1, none⟩ = some (.bool t489) := (blk_cell BK491.out 1).trans rfl; have hcz43_2 : w40.cell? ⟨gb491, 2, none⟩ = some (.int .i64 x492002_5) := (blk_cell BK491.out 2).trans rfl; have hfz43_0 := blk_frozen BK491.out 0; have hfz43_1 := blk_frozen BK491.out 1; have hfz43_2 := blk_frozen BK491.out 2; have hnb44 := NB486_0.out; have hnc44 := NB0_486.out; have hcz45_0 : w40.cell? ⟨gb486, 0, none⟩ = some (.int .i64 0) := (blk_cell BK486.out 0).trans rfl; have hcz45_1 : w40.cell? ⟨gb486, 1, none⟩ = some (.bool false) := (blk_cell BK486.out 1).trans rfl; have hcz45_2 : w40.cell? ⟨gb486, 2, none⟩ = some (.int .i64 0) := (blk_cell BK486.out 2).trans rfl; have hfz45_0 := blk_frozen BK486.out 0; have hfz45_1 := blk_frozen BK486.out 1; have hfz45_2 := blk_frozen BK486.out 2))
    refine bodyPost_ret (results_cell_row rfl _ _ gb486 30 #[.int .i64 t487, .bool t489, .int .i64 x492002_5] (0, 0) _ rfl (by (with_reducible repeat (first | refine blk_drewN ?_ _ | refine blk_drew ?_ | refine blk_alloc ?_ _)); refine blk_put (cs := #[.int .i64 t487, .bool t489, .int .i64 0]) ?_ 2 _ rfl; (with_reducible repeat (first | refine blk_drewN ?_ _ | refine blk_drew ?_ | refine blk_alloc ?_ _)); refine blk_put (cs := #[.int .i64 t487, .bool false, .int .i64 0]) ?_ 1 _ rfl; (with_reducible repeat (first | refine blk_drewN ?_ _ | refine blk_drew ?_ | refine blk_alloc ?_ _)); refine blk_put (cs := #[.int .i64 0, .bool false, .int .i64 0]) ?_ 0 _ rfl; (with_reducible repeat (first | refine blk_drewN ?_ _ | refine blk_drew ?_ | refine blk_alloc ?_ _)); exact BK486.out) Tryz.underlying30 rfl (by kernel_rfl)) rfl ?_
    exact ⟨q54_, q15_, q10_, q16_⟩
def spec_DrawReadIns.f (k : Nat) (l0 : List Int) : Option (ByteArray × Int) := (spec_l1Open.f l0).bind fun bt503 => ((spec_l1Rd_ins.f k bt503.1 bt503.2).bind fun bt506 => ((spec_InsBytes.f k bt506.1 bt506.2.1 bt506.2.2.1).bind fun t510 => ((spec_l1Rd_ins.f k bt503.1 bt506.2.2.2).bind fun bt511 => ((spec_InsBytes.f k bt511.1 bt511.2.1 bt511.2.2.1).bind fun t515 => (if t510.size + t515.size ≤ 9223372036854775807 then ((spec_l1Rd_below.f bt503.1 bt511.2.2.2 256).bind fun bt516 => ((some (([(bt516.1) % 256] : List Int) : List Int)).bind fun y518 => (if (t510 ++ t515).size + (strOfNums y518).size ≤ 9223372036854775807 then ((spec_l1Rd_below.f bt503.1 bt516.2 5).bind fun bt521 => ((spec_l1Rd_below.f bt503.1 bt521.2 2).bind fun bt523 => (some ((t510 ++ t515) ++ (strOfNums y518), wrap64 (bt521.1 - bt523.1))))) else (none)))) else (none))))))
theorem spec_DrawReadIns.mono : ∀ a0 k, LeO (spec_DrawReadIns.f k a0) (spec_DrawReadIns.f (k + 1) a0) := by
 intro a0 k
 unfold spec_DrawReadIns.f
 repeat' first
   | (with_reducible first | exact spec_InsBytes.mono _ _ _ _ | exact spec_l1Rd_ins.mono _ _ _ | exact LeO.refl _ | exact LeO.none _ | refine LeO.ite ?_ ?_ | refine LeO.bind ?_ (fun _ => ?_))
   | exact spec_InsBytes.mono _ _ _ _
   | exact spec_l1Rd_ins.mono _ _ _
   | exact LeO.none _
   | refine LeO.ite ?_ ?_
   | refine LeO.bind ?_ (fun _ => ?_)
theorem spec_DrawReadIns.calls (k : Nat) (A0 : Option Addr) (c0 : Nat) (l0 : List Int) (r1 : ByteArray) (r2 : Int) (w : World) (hr0 : Kd.C (Kd.int .u8) w A0 l0.length l0) (hc0 : l0.length ≤ c0) (h : spec_DrawReadIns.f k l0 = some (r1, r2)) :
  Calls Tryz.prog 23 #[.slice A0 l0.length c0] w fun e w' => e = .returned (.tuple #[.string r1, .int .i64 r2]) ∧ Below w.heap.size w w' := by
 have HR0 := Aside0.mk hr0
 have HC0 := Aside0.mk hc0
 clear hr0 hc0
 have HB := Aside0.mk (Below.refl w.heap.size w)
 have H : ((spec_l1Open.f l0).bind fun bt503 => ((spec_l1Rd_ins.f k bt503.1 bt503.2).bind fun bt506 => ((spec_InsBytes.f k bt506.1 bt506.2.1 bt506.2.2.1).bind fun t510 => ((spec_l1Rd_ins.f k bt503.1 bt506.2.2.2).bind fun bt511 => ((spec_InsBytes.f k bt511.1 bt511.2.1 bt511.2.2.1).bind fun t515 => (if t510.size + t515.size ≤ 9223372036854775807 then ((spec_l1Rd_below.f bt503.1 bt511.2.2.2 256).bind fun bt516 => ((some (([(bt516.1) % 256] : List Int) : List Int)).bind fun y518 => (if (t510 ++ t515).size + (strOfNums y518).size ≤ 9223372036854775807 then ((spec_l1Rd_below.f bt503.1 bt516.2 5).bind fun bt521 => ((spec_l1Rd_below.f bt503.1 bt521.2 2).bind fun bt523 => (some ((t510 ++ t515) ++ (strOfNums y518), wrap64 (bt521.1 - bt523.1))))) else (none)))) else (none))))))) = some (r1, r2) := h
 clear h
 replace H := Option.bind_eq_some_iff.mp H
 obtain ⟨⟨t503, t504⟩, A20, H⟩ := H
 replace H : ((spec_l1Rd_ins.f k t503 t504).bind fun bt506 => ((spec_InsBytes.f k bt506.1 bt506.2.1 bt506.2.2.1).bind fun t510 => ((spec_l1Rd_ins.f k t503 bt506.2.2.2).bind fun bt511 => ((spec_InsBytes.f k bt511.1 bt511.2.1 bt511.2.2.1).bind fun t515 => (if t510.size + t515.size ≤ 9223372036854775807 then ((spec_l1Rd_below.f t503 bt511.2.2.2 256).bind fun bt516 => ((some (([(bt516.1) % 256] : List Int) : List Int)).bind fun y518 => (if (t510 ++ t515).size + (strOfNums y518).size ≤ 9223372036854775807 then ((spec_l1Rd_below.f t503 bt516.2 5).bind fun bt521 => ((spec_l1Rd_below.f t503 bt521.2 2).bind fun bt523 => (some ((t510 ++ t515) ++ (strOfNums y518), wrap64 (bt521.1 - bt523.1))))) else (none)))) else (none)))))) = some (r1, r2) := H
 have A2 := Aside0.mk A20
 clear A20
 replace H := Option.bind_eq_some_iff.mp H
 obtain ⟨⟨t506, t507, t508, t509⟩, A30, H⟩ := H
 replace H : ((spec_InsBytes.f k t506 t507 t508).bind fun t510 => ((spec_l1Rd_ins.f k t503 t509).bind fun bt511 => ((spec_InsBytes.f k bt511.1 bt511.2.1 bt511.2.2.1).bind fun t515 => (if t510.size + t515.size ≤ 9223372036854775807 then ((spec_l1Rd_below.f t503 bt511.2.2.2 256).bind fun bt516 => ((some (([(bt516.1) % 256] : List Int) : List Int)).bind fun y518 => (if (t510 ++ t515).size + (strOfNums y518).size ≤ 9223372036854775807 then ((spec_l1Rd_below.f t503 bt516.2 5).bind fun bt521 => ((spec_l1Rd_below.f t503 bt521.2 2).bind fun bt523 => (some ((t510 ++ t515) ++ (strOfNums y518), wrap64 (bt521.1 - bt523.1))))) else (none)))) else (none))))) = some (r1, r2) := H
 have A3 := Aside0.mk A30
 clear A30
 replace H := Option.bind_eq_some_iff.mp H
 obtain ⟨t510, A40, H⟩ := H
 have A4 := Aside0.mk A40
 clear A40
 replace H := Option.bind_eq_some_iff.mp H
 obtain ⟨⟨t511, t512, t513, t514⟩, A50, H⟩ := H
 replace H : ((spec_InsBytes.f k t511 t512 t513).bind fun t515 => (if t510.size + t515.size ≤ 9223372036854775807 then ((spec_l1Rd_below.f t503 t514 256).bind fun bt516 => ((some (([(bt516.1) % 256] : List Int) : List Int)).bind fun y518 => (if (t510 ++ t515).size + (strOfNums y518).size ≤ 9223372036854775807 then ((spec_l1Rd_below.f t503 bt516.2 5).bind fun bt521 => ((spec_l1Rd_below.f t503 bt521.2 2).bind fun bt523 => (some ((t510 ++ t515) ++ (strOfNums y518), wrap64 (bt521.1 - bt523.1))))) else (none)))) else (none))) = some (r1, r2) := H
 have A5 := Aside0.mk A50
 clear A50
 replace H := Option.bind_eq_some_iff.mp H
 obtain ⟨t515, A60, H⟩ := H
 have A6 := Aside0.mk A60
 clear A60
 by_cases c7 : t510.size + t515.size ≤ 9223372036854775807
 ·rw [if_pos c7] at H
  have c7b0 := eq_true c7
  have c7b1 : decide (t510.size + t515.size ≤ 9223372036854775807) = true := decide_eq_true c7
  try have c7b2 : (9223372036854775807 < t510.size + t515.size) = False := eq_false (Nat.not_lt.2 c7)
  replace H := Option.bind_eq_some_iff.mp H
  obtain ⟨⟨t516, t517⟩, A80, H⟩ := H
  replace H : ((some (([(t516) % 256] : List Int) : List Int)).bind fun y518 => (if (t510 ++ t515).size + (strOfNums y518).size ≤ 9223372036854775807 then ((spec_l1Rd_below.f t503 t517 5).bind fun bt521 => ((spec_l1Rd_below.f t503 bt521.2 2).bind fun bt523 => (some ((t510 ++ t515) ++ (strOfNums y518), wrap64 (bt521.1 - bt523.1))))) else (none))) = some (r1, r2) := H
  have A8 := Aside0.mk A80
  clear A80
  obtain ⟨y518, hy518⟩ : ∃ y_ : List Int, y_ = (([(t516) % 256] : List Int)) := ⟨_, rfl⟩
  replace H : (if (t510 ++ t515).size + (strOfNums y518).size ≤ 9223372036854775807 then ((spec_l1Rd_below.f t503 t517 5).bind fun bt521 => ((spec_l1Rd_below.f t503 bt521.2 2).bind fun bt523 => (some ((t510 ++ t515) ++ (strOfNums y518), wrap64 (bt521.1 - bt523.1))))) else (none)) = some (r1, r2) := by first | (rw [hy518]; with_reducible exact H) | (have H2_ := (Option.bind_some _ _).symm.trans H; rw [hy518]; with_reducible exact H2_) | (have H2_ := (Option.bind_some _ _).symm.trans H; with_reducible exact H2_) | with_reducible exact H | (rw [hy518]; exact H) | exact H
  have Ny518 := Aside0.mk hy518
  clear hy518
  by_cases c9 : (t510 ++ t515).size + (strOfNums y518).size ≤ 9223372036854775807
  ·rw [if_pos c9] at H
   have c9b0 := eq_true c9
   (try (have c9b0e := c9b0; simp only [ByteArray.size_append, ByteArray.size_extract, Nat.min_self, Nat.sub_zero] at c9b0e))
   have c9b1 : decide ((t510 ++ t515).size + (strOfNums y518).size ≤ 9223372036854775807) = true := decide_eq_true c9
   (try (have c9b1e := c9b1; simp only [ByteArray.size_append, ByteArray.size_extract, Nat.min_self, Nat.sub_zero] at c9b1e))
   try have c9b2 : (9223372036854775807 < (t510 ++ t515).size + (strOfNums y518).size) = False := eq_false (Nat.not_lt.2 c9)
   (try (have c9b2e := c9b2; simp only [ByteArray.size_append, ByteArray.size_extract, Nat.min_self, Nat.sub_zero] at c9b2e))
   replace H := Option.bind_eq_some_iff.mp H
   obtain ⟨⟨t521, t522⟩, A100, H⟩ := H
   replace H : ((spec_l1Rd_below.f t503 t522 2).bind fun bt523 => (some ((t510 ++ t515) ++ (strOfNums y518), wrap64 (t521 - bt523.1)))) = some (r1, r2) := H
   have A10 := Aside0.mk A100
   clear A100
   replace H := Option.bind_eq_some_iff.mp H
   obtain ⟨⟨t523, t524⟩, A110, H⟩ := H
   replace H : (some ((t510 ++ t515) ++ (strOfNums y518), wrap64 (t521 - t523))) = some (r1, r2) := H
   have A11 := Aside0.mk A110
   clear A110
   simp only [Option.some.injEq, Prod.mk.injEq] at H
   obtain ⟨rfl, rfl⟩ := H
   go_enter Tryz.func23, Tryz.ntmps23
   go_wp2_with (first | ((with_reducible refine gate_callee (f := 43) rfl ?_); refine goesL_ (some 7) rfl rfl Tryz.func43 (by kernel_rfl) rfl #[.slice A0 l0.length c0] rfl q51_ ?_; (with_reducible refine (spec_l1Open.calls _ _ l0 t503 t504 w _ ?side1 ?side2 ?side3 A2.out).mono ?_); (case side1 => repeat (first | (with_reducible first | exact HB.out | apply below_alloc | apply pw_below_drewN | apply below_drew1) | exact HB.out)); (case side2 => exact HR0.out); (case side3 => exact HC0.out); rintro e w12 ⟨g505, rfl, hi, hb, hb2⟩; refine ⟨_, rfl, ?_⟩; have n0_ := Aside0.mk (hb); have n1_ := Aside0.mk (hi); clear HB; have HB := n0_; have HI505 := n1_; clear n0_ n1_; (try clear hb); (try clear hb2); (try clear hi)) | ((with_reducible refine gate_callee (f := 62) rfl ?_); refine goesL_ (some 9) rfl rfl Tryz.func62 (by kernel_rfl) rfl #[.pointer (some ⟨g505, 0, none⟩)] rfl q51_ ?_; (with_reducible refine (spec_l1Rd_ins.calls k g505 t503 t504 t506 t507 t508 t509 w _ ?side1 ?side2 A3.out).mono ?_); (case side1 => exact q108_); (case side2 => exact q106_); rintro e w13 ⟨rfl, hi, hb, hk⟩; refine ⟨_, rfl, ?_⟩; have n0_ := Aside0.mk (hb); have n1_ := Aside0.mk (hi); clear HB; clear HI505; have HB := n0_; have HI505 := n1_; clear n0_ n1_; (try clear hb); (try clear hk); (try clear hi)) | ((with_reducible refine gate_callee (f := 19) rfl ?_); refine goesL_ (some 10) rfl rfl Tryz.func19 (by kernel_rfl) rfl #[.agg #[.int .i64 t506, .bool t507, .int .i64 t508]] rfl q51_ ?_; (with_reducible refine (spec_InsBytes.calls k t506 t507 t508 t510 _ A4.out).mono ?_); rintro e w14 ⟨rfl, hb⟩; refine ⟨_, rfl, ?_⟩; have n0_ := Aside0.mk (IsS96.below q45_ hb); have n1_ := Aside0.mk (below_step q33_ hb); clear HI505; clear HB; have HI505 := n0_; have HB := n1_; clear n0_ n1_; (try clear hb)) | ((with_reducible refine gate_callee (f := 62) rfl ?_); refine goesL_ (some 12) rfl rfl Tryz.func62 (by kernel_rfl) rfl #[.pointer (some ⟨g505, 0, none⟩)] rfl q51_ ?_; (with_reducible refine (spec_l1Rd_ins.calls k g505 t503 t509 t511 t512 t513 t514 w _ ?side1 ?side2 A5.out).mono ?_); (case side1 => exact q108_); (case side2 => exact q106_); rintro e w15 ⟨rfl, hi, hb, hk⟩; refine ⟨_, rfl, ?_⟩; have n0_ := Aside0.mk (hb); have n1_ := Aside0.mk (hi); clear HB; clear HI505; have HB := n0_; have HI505 := n1_; clear n0_ n1_; (try clear hb); (try clear hk); (try clear hi)) | ((with_reducible refine gate_callee (f := 19) rfl ?_); refine goesL_ (some 13) rfl rfl Tryz.func19 (by kernel_rfl) rfl #[.agg #[.int .i64 t511, .bool t512, .int .i64 t513]] rfl q51_ ?_; (with_reducible refine (spec_InsBytes.calls k t511 t512 t513 t515 _ A6.out).mono ?_); rintro e w16 ⟨rfl, hb⟩; refine ⟨_, rfl, ?_⟩; have n0_ := Aside0.mk (IsS96.below q45_ hb); have n1_ := Aside0.mk (below_step q33_ hb); clear HI505; clear HB; have HI505 := n0_; have HB := n1_; clear n0_ n1_; (try clear hb)) | ((with_reducible refine gate_callee (f := 44) rfl ?_); refine goesL_ (some 16) rfl rfl Tryz.func44 (by kernel_rfl) rfl #[.pointer (some ⟨g505, 0, none⟩), .int .i64 256] rfl q51_ ?_; (with_reducible refine (spec_l1Rd_below.calls g505 t503 t514 256 t516 t517 w _ ?side1 ?side2 A8.out).mono ?_); (case side1 => exact q108_); (case side2 => exact q106_); rintro e w17 ⟨rfl, hi, hb, hk⟩; refine ⟨_, rfl, ?_⟩; have n0_ := Aside0.mk (hb); have n1_ := Aside0.mk (hi); clear HB; clear HI505; have HB := n0_; have HI505 := n1_; clear n0_ n1_; (try clear hb); (try clear hk); (try clear hi)) | ((with_reducible refine gate_dst (N := 18) rfl ?_); refine Kd.R_lit (Kd.int .u8) _ 5 ?hg (N := 18) ?hd (xs := ([(t516) % 256] : List Int)) (inner := [.int .u8 ((t516) % 256)]) (ok := fun _ => True) (okp := fun _ => True) ?hr ?hp (fun _ hk => hk) trivial (Below.refl _ _) (Nat.le_refl _) (by simp) ?_; (case hd => rfl); (case hg => rfl); (case hr => exact q111_); (case hp => exact (Reps.one (show Kd.M (Kd.int .u8) _ _ _ ((t516) % 256) [.int .u8 ((t516) % 256)] from rfl) (Reps.none _ _))); intro v519 w18 ho19 hb hg_ hnew_; clear hg_ hnew_; (first | rw [← Ny518.out] at ho19 | (simp only [Int.reduceToNat] at ho19; rw [← Ny518.out] at ho19)); have n0_ := Aside0.mk (Kd.R_lower ho19 (below_size q33_)); have n1_ := Aside0.mk (IsS96.below q45_ hb); have n2_ := Aside0.mk (below_step q33_ hb); clear HI505; clear HB; have HO520 := n0_; have HI505 := n1_; have HB := n2_; clear n0_ n1_ n2_; clear hb ho19; have hcv20 := own_string (P := Tryz.prog) Tryz.underlying22 Tryz.underlying5 Tryz.underlying9 (Kd.own_of_R HO520.out); have hcvq20 := fun m_ : Nat => own_string (P := Tryz.prog) Tryz.underlying22 Tryz.underlying5 Tryz.underlying9 (Kd.own_of_R (Kd.R_drewN HO520.out m_))) | ((with_reducible refine gate_callee (f := 44) rfl ?_); refine goesL_ (some 23) rfl rfl Tryz.func44 (by kernel_rfl) rfl #[.pointer (some ⟨g505, 0, none⟩), .int .i64 5] rfl q51_ ?_; (with_reducible refine (spec_l1Rd_below.calls g505 t503 t517 5 t521 t522 w _ ?side1 ?side2 A10.out).mono ?_); (case side1 => exact q108_); (case side2 => exact q106_); rintro e w21 ⟨rfl, hi, hb, hk⟩; refine ⟨_, rfl, ?_⟩; have n0_ := Aside0.mk (Kd.R_mono (Kd.R_keep (IsS96.apart (show IsS96 w _ g505 t503 t517 from by repeat (first | (with_reducible first | exact HI505.out | apply IsS96.alloc | apply IsS96.drewN | apply IsS96.drew | apply IsS96.set_1) | exact HI505.out)) (by (with_reducible repeat (first | apply Kd.R_alloc | apply Kd.R_drewN | apply Kd.R_drew)); exact HO520.out) (by decide)) hk (fun _ h => h.2)) (fun _ h => h.1)); have n1_ := Aside0.mk (hb); have n2_ := Aside0.mk (hi); clear HO520; clear HB; clear HI505; have HO520 := n0_; have HB := n1_; have HI505 := n2_; clear n0_ n1_ n2_; (try clear hb); (try clear hk); (try clear hi)) | ((with_reducible refine gate_callee (f := 44) rfl ?_); refine goesL_ (some 25) rfl rfl Tryz.func44 (by kernel_rfl) rfl #[.pointer (some ⟨g505, 0, none⟩), .int .i64 2] rfl q51_ ?_; (with_reducible refine (spec_l1Rd_below.calls g505 t503 t522 2 t523 t524 w _ ?side1 ?side2 A11.out).mono ?_); (case side1 => exact q108_); (case side2 => exact q106_); rintro e w22 ⟨rfl, hi, hb, hk⟩; refine ⟨_, rfl, ?_⟩; have n0_ := Aside0.mk (Kd.R_mono (Kd.R_keep (IsS96.apart (show IsS96 w _ g505 t503 t522 from by repeat (first | (with_reducible first | exact HI505.out | apply IsS96.alloc | apply IsS96.drewN | apply IsS96.drew | apply IsS96.set_1) | exact HI505.out)) (by (with_reducible repeat (first | apply Kd.R_alloc | apply Kd.R_drewN | apply Kd.R_drew)); exact HO520.out) (by decide)) hk (fun _ h => h.2)) (fun _ h => h.1)); have n1_ := Aside0.mk (hb); have n2_ := Aside0.mk (hi); clear HO520; clear HB; clear HI505; have HO520 := n0_; have HB := n1_; have HI505 := n2_; clear n0_ n1_ n2_; (try clear hb); (try clear hk); (try clear hi)))
   go_ret2
   exact ⟨q54_, q33_⟩
  ·rw [if_neg c9] at H
   exact absurd H (by simp)
 ·rw [if_neg c7] at H
  exact absurd H (by simp)
def spec_l3At.f (a0 : ByteArray) (a1 : Int) : Option (Int) := if 0 ≤ a1 then (if a1 < (a0.size : Int) then (some (wrap64 (bt a0 a1))) else (none)) else (none)
theorem spec_l3At.calls (a0 : ByteArray) (a1 : Int) (r : Int) (w : World) (h : spec_l3At.f a0 a1 = some r) :
  Calls Tryz.prog 63 #[.string a0, .int .i64 a1] w fun e w' => e = .returned (.int .i64 r) ∧ Drawn0 w w' := by
 have H : (if 0 ≤ a1 then (if a1 < (a0.size : Int) then (some (wrap64 (bt a0 a1))) else (none)) else (none)) = some r := h
 clear h
 by_cases c3 : 0 ≤ a1
 ·rw [if_pos c3] at H
  have c3b0 : decide (0 ≤ a1) = true := decide_eq_true c3
  clear c3
  by_cases c4 : a1 < (a0.size : Int)
  ·rw [if_pos c4] at H
   have c4b0 : decide (a1 < (a0.size : Int)) = true := decide_eq_true c4
   clear c4
   obtain rfl := Option.some.inj H
   have p5 : 0 ≤ (a1 : Int) := of_decide_eq_true q82_
   have q5 : a1 < (a0.size : Int) := of_decide_eq_true q82_
   have hx5 := bt_at a0 a1
   replace p5 := eq_true p5
   replace q5 := eq_true q5
   go_enter Tryz.func63, Tryz.ntmps63
   go_wp2
   go_ret
   exact ⟨q68_, q81_⟩
  ·rw [if_neg c4] at H
   exact absurd H (by simp)
 ·rw [if_neg c3] at H
  exact absurd H (by simp)
end Go.Proofs.YtodlnnoekccmmaaGreatDoor.QFnReadIns
