/- The machine's side of a law, written by a program of this session for this claim. -/
import Derived.Test.YtodlnnoekccmmaaGreatDoorZQq
import Derived.Test.YtodlnnoekccmmaaGreatDoorZQFnInsx0
import Derived.Test.YtodlnnoekccmmaaGreatDoorZQFnInsx8
import Derived.Test.YtodlnnoekccmmaaGreatDoorZQFnInsx9
import Derived.Test.YtodlnnoekccmmaaGreatDoorZQFnInsx11
namespace Go.Proofs.YtodlnnoekccmmaaGreatDoor.QFnIns
open Go.Proofs.YtodlnnoekccmmaaGreatDoor.Qq
open Go.RowKit Go.Proofs.YtodlnnoekccmmaaGreatDoor.LibX Go.Proofs.YtodlnnoekccmmaaGreatDoor.LibE Go.Proofs.YtodlnnoekccmmaaGreatDoorW.PrintWords Go.Proofs.YtodlnnoekccmmaaGreatDoorW.PrintLast Go.Proofs.YtodlnnoekccmmaaGreatDoorW.PrintMore
attribute [local go_sem] max2_int min2_int max_two min_two max_three min_three max_four min_four   -- for this text's walks alone
set_option maxHeartbeats 8000000
set_option maxRecDepth 100000
set_option linter.unusedVariables false
set_option linter.unusedSimpArgs false
def spec_l1Rd_byte.f (s0_0 : List Int) (s0_1 : Int) : Option (Int × Int) := (spec_l1Rd_once.f s0_0 s0_1 2).bind fun bt429 => (if bt429.1 = true then ((some (([0, 1, 127, 128, 255, 15, 16, 240] : List Int) : List Int)).bind fun y431 => ((spec_l1Rd_below.f s0_0 bt429.2 8).bind fun bt434 => (if 0 ≤ bt434.1 then (if bt434.1 < (y431.length : Int) then (some (rd y431 bt434.1, bt434.2)) else (none)) else (none)))) else ((spec_l1Rd_below.f s0_0 bt429.2 256).bind fun bt437 => (some (bt437.1, bt437.2))))
theorem spec_l1Rd_byte.calls (g : Nat) (s0_0 : List Int) (s0_1 : Int) (r1 : Int) (r2 : Int) (w0 w : World) (hI : IsS96 w0 w g s0_0 s0_1) (hB : Below w0.heap.size w0 w) (h : spec_l1Rd_byte.f s0_0 s0_1 = some (r1, r2)) :
  Calls Tryz.prog 104 #[.pointer (some ⟨g, 0, none⟩)] w fun e w' => e = .returned (.int .i64 r1) ∧ IsS96 w0 w' g s0_0 r2 ∧ Below w0.heap.size w0 w' ∧ KeepBut w w' g none := by
 have HI0 := Aside0.mk hI
 have HK := Aside0.mk (KeepBut.refl w g none)
 have HL := Aside0.mk hB.size
 clear hI
 have HW0 := Aside0.mk hB.size
 have HB := Aside0.mk hB
 clear hB
 have H : ((spec_l1Rd_once.f s0_0 s0_1 2).bind fun bt429 => (if bt429.1 = true then ((some (([0, 1, 127, 128, 255, 15, 16, 240] : List Int) : List Int)).bind fun y431 => ((spec_l1Rd_below.f s0_0 bt429.2 8).bind fun bt434 => (if 0 ≤ bt434.1 then (if bt434.1 < (y431.length : Int) then (some (rd y431 bt434.1, bt434.2)) else (none)) else (none)))) else ((spec_l1Rd_below.f s0_0 bt429.2 256).bind fun bt437 => (some (bt437.1, bt437.2))))) = some (r1, r2) := h
 clear h
 replace H := Option.bind_eq_some_iff.mp H
 obtain ⟨⟨t429, t430⟩, A20, H⟩ := H
 replace H : (if t429 = true then ((some (([0, 1, 127, 128, 255, 15, 16, 240] : List Int) : List Int)).bind fun y431 => ((spec_l1Rd_below.f s0_0 t430 8).bind fun bt434 => (if 0 ≤ bt434.1 then (if bt434.1 < (y431.length : Int) then (some (rd y431 bt434.1, bt434.2)) else (none)) else (none)))) else ((spec_l1Rd_below.f s0_0 t430 256).bind fun bt437 => (some (bt437.1, bt437.2)))) = some (r1, r2) := H
 have A2 := Aside0.mk A20
 clear A20
 by_cases c3 : t429 = true
 ·subst c3
  replace H : ((some (([0, 1, 127, 128, 255, 15, 16, 240] : List Int) : List Int)).bind fun y431 => ((spec_l1Rd_below.f s0_0 t430 8).bind fun bt434 => (if 0 ≤ bt434.1 then (if bt434.1 < (y431.length : Int) then (some (rd y431 bt434.1, bt434.2)) else (none)) else (none)))) = some (r1, r2) := by rw [if_pos rfl] at H; exact H
  obtain ⟨y431, hy431⟩ : ∃ y_ : List Int, y_ = (([0, 1, 127, 128, 255, 15, 16, 240] : List Int)) := ⟨_, rfl⟩
  replace H : ((spec_l1Rd_below.f s0_0 t430 8).bind fun bt434 => (if 0 ≤ bt434.1 then (if bt434.1 < (y431.length : Int) then (some (rd y431 bt434.1, bt434.2)) else (none)) else (none))) = some (r1, r2) := by first | (rw [hy431]; with_reducible exact H) | (have H2_ := (Option.bind_some _ _).symm.trans H; rw [hy431]; with_reducible exact H2_) | (have H2_ := (Option.bind_some _ _).symm.trans H; with_reducible exact H2_) | with_reducible exact H | (rw [hy431]; exact H) | exact H
  have Ny431 := Aside0.mk hy431
  clear hy431
  replace H := Option.bind_eq_some_iff.mp H
  obtain ⟨⟨t434, t435⟩, A40, H⟩ := H
  replace H : (if 0 ≤ t434 then (if t434 < (y431.length : Int) then (some (rd y431 t434, t435)) else (none)) else (none)) = some (r1, r2) := H
  have A4 := Aside0.mk A40
  clear A40
  by_cases c5 : 0 ≤ t434
  ·rw [if_pos c5] at H
   have c5b0 : decide (0 ≤ t434) = true := decide_eq_true c5
   clear c5
   by_cases c6 : t434 < (y431.length : Int)
   ·rw [if_pos c6] at H
    have c6b0 : decide (t434 < (y431.length : Int)) = true := decide_eq_true c6
    clear c6
    simp only [Option.some.injEq, Prod.mk.injEq] at H
    obtain ⟨rfl, rfl⟩ := H
    go_enter Tryz.func104, Tryz.ntmps104
    go_wp2_with (first | ((with_reducible refine gate_callee (f := 45) rfl ?_); refine goesL_ (some 4) rfl rfl Tryz.func45 (by kernel_rfl) rfl #[.pointer (some ⟨g, 0, none⟩), .int .i64 2] rfl q56_ ?_; (with_reducible refine (spec_l1Rd_once.calls g s0_0 s0_1 2 true t430 w0 _ ?side1 ?side2 A2.out).mono ?_); (case side1 => exact q113_); (case side2 => exact q111_); rintro e w7 ⟨rfl, hi, hb, hk⟩; refine ⟨_, rfl, ?_⟩; have n0_ := Aside0.mk (KeepBut.trans q53_ hk (.inl rfl)); have n1_ := Aside0.mk (hb); have n2_ := Aside0.mk (hi); clear HK; clear HB; clear HI0; have HK := n0_; have HB := n1_; have HI0 := n2_; clear n0_ n1_ n2_; (try clear hb); (try clear hk); (try clear hi)) | ((with_reducible refine gate_dst (N := 5) rfl ?_); refine Kd.R_lit (Kd.int .i64) _ 2 ?hg (N := 5) ?hd (xs := ([0, 1, 127, 128, 255, 15, 16, 240] : List Int)) (inner := [.int .i64 0, .int .i64 1, .int .i64 127, .int .i64 128, .int .i64 255, .int .i64 15, .int .i64 16, .int .i64 240]) (ok := fun _ => True) (okp := fun _ => True) ?hr ?hp (fun _ hk => hk) trivial (Below.refl _ _) (Nat.le_refl _) (by simp) ?_; (case hd => rfl); (case hg => rfl); (case hr => exact q114_); (case hp => exact (Reps.one (show Kd.M (Kd.int .i64) _ _ _ 0 [.int .i64 0] from rfl) (Reps.one (show Kd.M (Kd.int .i64) _ _ _ 1 [.int .i64 1] from rfl) (Reps.one (show Kd.M (Kd.int .i64) _ _ _ 127 [.int .i64 127] from rfl) (Reps.one (show Kd.M (Kd.int .i64) _ _ _ 128 [.int .i64 128] from rfl) (Reps.one (show Kd.M (Kd.int .i64) _ _ _ 255 [.int .i64 255] from rfl) (Reps.one (show Kd.M (Kd.int .i64) _ _ _ 15 [.int .i64 15] from rfl) (Reps.one (show Kd.M (Kd.int .i64) _ _ _ 16 [.int .i64 16] from rfl) (Reps.one (show Kd.M (Kd.int .i64) _ _ _ 240 [.int .i64 240] from rfl) (Reps.none _ _)))))))))); intro v432 w8 ho9 hb hg_ hnew_; clear hg_ hnew_; (first | rw [← Ny431.out] at ho9 | (simp only [Int.reduceToNat] at ho9; rw [← Ny431.out] at ho9)); have n0_ := Aside0.mk (Kd.R_lower ho9 (keep_size (w := w) (g := g) (row := none) q53_)); have n1_ := Aside0.mk (IsS96.below q52_ hb); have n2_ := Aside0.mk (KeepBut.trans q53_ (KeepBut.of_below hb g none) (.inl rfl)); have n3_ := Aside0.mk (below_step q40_ hb); clear HI0; clear HK; clear HB; have HO433 := n0_; have HI0 := n1_; have HK := n2_; have HB := n3_; clear n0_ n1_ n2_ n3_; clear hb ho9) | ((with_reducible refine gate_callee (f := 44) rfl ?_); refine goesL_ (some 7) rfl rfl Tryz.func44 (by kernel_rfl) rfl #[.pointer (some ⟨g, 0, none⟩), .int .i64 8] rfl q56_ ?_; (with_reducible refine (spec_l1Rd_below.calls g s0_0 t430 8 t434 t435 w0 _ ?side1 ?side2 A4.out).mono ?_); (case side1 => exact q113_); (case side2 => exact q111_); rintro e w10 ⟨rfl, hi, hb, hk⟩; refine ⟨_, rfl, ?_⟩; have n0_ := Aside0.mk (Kd.R_mono (Kd.R_keep (IsS96.apart (show IsS96 w0 _ g s0_0 t430 from by repeat (first | (with_reducible first | exact HI0.out | apply IsS96.alloc | apply IsS96.drewN | apply IsS96.drew | apply IsS96.set_1) | exact HI0.out)) (by (with_reducible repeat (first | apply Kd.R_alloc | apply Kd.R_drewN | apply Kd.R_drew)); exact HO433.out) (by decide)) hk (fun _ h => h.2)) (fun _ h => h.1)); have n1_ := Aside0.mk (KeepBut.trans q53_ hk (.inl rfl)); have n2_ := Aside0.mk (hb); have n3_ := Aside0.mk (hi); clear HO433; clear HK; clear HB; clear HI0; have HO433 := n0_; have HK := n1_; have HB := n2_; have HI0 := n3_; clear n0_ n1_ n2_ n3_; (try clear hb); (try clear hk); (try clear hi); obtain ⟨Ao11, co11, eo11⟩ := Kd.R_slice HO433.out; subst eo11; have p436 : 0 ≤ (t434 : Int) := of_decide_eq_true q87_; have q436 : t434 < (y431.length : Int) := of_decide_eq_true q87_; obtain ⟨ad436, e436, hx436_0⟩ := Kd.at_int (Kd.R_reads' HO433.out).2.2 t434 p436 q436; cases e436; replace p436 := eq_true p436; replace q436 := eq_true q436))
    go_ret
    exact ⟨q59_, q52_, q40_, q53_⟩
   ·rw [if_neg c6] at H
    exact absurd H (by simp)
  ·rw [if_neg c5] at H
   exact absurd H (by simp)
 ·replace c3 := Bool.eq_false_iff.mpr c3
  subst c3
  replace H : ((spec_l1Rd_below.f s0_0 t430 256).bind fun bt437 => (some (bt437.1, bt437.2))) = some (r1, r2) := by rw [if_neg (show ¬ (false = true) by decide)] at H; exact H
  replace H := Option.bind_eq_some_iff.mp H
  obtain ⟨⟨t437, t438⟩, A120, H⟩ := H
  replace H : (some (t437, t438)) = some (r1, r2) := H
  have A12 := Aside0.mk A120
  clear A120
  simp only [Option.some.injEq, Prod.mk.injEq] at H
  obtain ⟨rfl, rfl⟩ := H
  go_enter Tryz.func104, Tryz.ntmps104
  go_wp2_with (first | ((with_reducible refine gate_callee (f := 45) rfl ?_); refine goesL_ (some 4) rfl rfl Tryz.func45 (by kernel_rfl) rfl #[.pointer (some ⟨g, 0, none⟩), .int .i64 2] rfl q56_ ?_; (with_reducible refine (spec_l1Rd_once.calls g s0_0 s0_1 2 false t430 w0 _ ?side1 ?side2 A2.out).mono ?_); (case side1 => exact q113_); (case side2 => exact q111_); rintro e w13 ⟨rfl, hi, hb, hk⟩; refine ⟨_, rfl, ?_⟩; have n0_ := Aside0.mk (KeepBut.trans q53_ hk (.inl rfl)); have n1_ := Aside0.mk (hb); have n2_ := Aside0.mk (hi); clear HK; clear HB; clear HI0; have HK := n0_; have HB := n1_; have HI0 := n2_; clear n0_ n1_ n2_; (try clear hb); (try clear hk); (try clear hi)) | ((with_reducible refine gate_callee (f := 44) rfl ?_); refine goesL_ (some 11) rfl rfl Tryz.func44 (by kernel_rfl) rfl #[.pointer (some ⟨g, 0, none⟩), .int .i64 256] rfl q56_ ?_; (with_reducible refine (spec_l1Rd_below.calls g s0_0 t430 256 t437 t438 w0 _ ?side1 ?side2 A12.out).mono ?_); (case side1 => exact q113_); (case side2 => exact q111_); rintro e w14 ⟨rfl, hi, hb, hk⟩; refine ⟨_, rfl, ?_⟩; have n0_ := Aside0.mk (KeepBut.trans q53_ hk (.inl rfl)); have n1_ := Aside0.mk (hb); have n2_ := Aside0.mk (hi); clear HK; clear HB; clear HI0; have HK := n0_; have HB := n1_; have HI0 := n2_; clear n0_ n1_ n2_; (try clear hb); (try clear hk); (try clear hi)))
  go_ret
  exact ⟨q59_, q52_, q40_, q53_⟩
def spec_l1Rd_word.l0 : Nat → Int → Int → List Int → Int → Option (Int × Int)
 | 0, _, _, _, _ => none
 | k + 1, x3, x4, x1000, x1001 => if x4 < 8 then ((spec_l1Rd_next.f x1000 x1001).bind fun bt439 => (spec_l1Rd_word.l0 k (Go.bits .or .u64 (IntKind.u64.wrap (x3 * 256)) (IntKind.u64.wrap (bt439.1))) (wrap64 (x4 + 1)) x1000 bt439.2)) else (some (x3, x1001))
def spec_l1Rd_word.f (k : Nat) (s0_0 : List Int) (s0_1 : Int) : Option (Int × Int) := spec_l1Rd_word.l0 k 0 0 s0_0 s0_1
theorem spec_l1Rd_word.mono_l : ∀ k, (∀ y0 y1 y2 y3, LeO (spec_l1Rd_word.l0 k y0 y1 y2 y3) (spec_l1Rd_word.l0 (k + 1) y0 y1 y2 y3))
 | 0 => fun _ _ _ _ r h => by simp [spec_l1Rd_word.l0] at h
 | k + 1 => by
  have ih0 := spec_l1Rd_word.mono_l k
  ·intro y0 y1 y2 y3
   unfold spec_l1Rd_word.l0
   repeat' first
   | (with_reducible first | exact ih0 _ _ _ _ | exact LeO.refl _ | exact LeO.none _ | refine LeO.ite ?_ ?_ | refine LeO.bind ?_ (fun _ => ?_))
   | exact ih0 _ _ _ _
   | exact LeO.none _
   | refine LeO.ite ?_ ?_
   | refine LeO.bind ?_ (fun _ => ?_)
theorem spec_l1Rd_word.mono : ∀ a0 a1 k, LeO (spec_l1Rd_word.f k a0 a1) (spec_l1Rd_word.f (k + 1) a0 a1) := by
 intro a0 a1 k
 have ih0 := spec_l1Rd_word.mono_l k
 unfold spec_l1Rd_word.f
 repeat' first
   | (with_reducible first | exact ih0 _ _ _ _ | exact LeO.refl _ | exact LeO.none _ | refine LeO.ite ?_ ?_ | refine LeO.bind ?_ (fun _ => ?_))
   | exact ih0 _ _ _ _
   | exact LeO.none _
   | refine LeO.ite ?_ ?_
   | refine LeO.bind ?_ (fun _ => ?_)
theorem spec_l1Rd_word.calls (k : Nat) (g : Nat) (s0_0 : List Int) (s0_1 : Int) (r1 : Int) (r2 : Int) (w0 w : World) (hI : IsS96 w0 w g s0_0 s0_1) (hB : Below w0.heap.size w0 w) (h : spec_l1Rd_word.f k s0_0 s0_1 = some (r1, r2)) :
  Calls Tryz.prog 158 #[.pointer (some ⟨g, 0, none⟩)] w fun e w' => e = .returned (.int .u64 r1) ∧ IsS96 w0 w' g s0_0 r2 ∧ Below w0.heap.size w0 w' ∧ KeepBut w w' g none := by
 have HI0 := Aside0.mk hI
 have HK := Aside0.mk (KeepBut.refl w g none)
 have HL := Aside0.mk hB.size
 clear hI
 have HW0 := Aside0.mk hB.size
 have HB := Aside0.mk hB
 clear hB
 have H : (spec_l1Rd_word.l0 k 0 0 s0_0 s0_1) = some (r1, r2) := h
 clear h
 have H' := Aside0.mk H
 clear H
 go_enter Tryz.func158, Tryz.ntmps158
 go_wp2
 go_loopg [3, 4] k (fun kq v3 v4 w' => ∃ (x3_1 : Int) (x4_1 : Int) (x1001_1 : Int), v3 = .int .u64 x3_1 ∧ v4 = .int .i64 x4_1 ∧ Aside0 (spec_l1Rd_word.l0 kq x3_1 x4_1 s0_0 x1001_1 = some (r1, r2)) ∧ Aside0 (kq ≤ k) ∧ Aside0 (IsS96 w0 w' g s0_0 x1001_1) ∧ Aside0 (KeepBut w w' g none) ∧ Aside0 (Below w0.heap.size w0 w'))
 case atStart => exact ⟨(0), (0), (s0_1), q73_, q73_, H', ⟨Nat.le_refl _⟩, ⟨q52_⟩, ⟨q53_⟩, ⟨q40_⟩⟩
 case round =>
  clear H'
  try clear c1
  obtain ⟨x3_1, x4_1, x1001_1, rfl, rfl, HA, HK1, HI0, HK, HB⟩ := hrel
  cases gk with
  | zero => exact absurd HA.out (by simp [spec_l1Rd_word.l0])
  | succ k1 =>
   have H := HA.out
   clear HA
   simp only [spec_l1Rd_word.l0] at H
   by_cases c2 : x4_1 < 8
   ·rw [if_pos c2] at H
    have c2b0 : decide (x4_1 < 8) = true := decide_eq_true c2
    clear c2
    replace H := Option.bind_eq_some_iff.mp H
    obtain ⟨⟨t439, t440⟩, A30, H⟩ := H
    replace H : (spec_l1Rd_word.l0 k1 (Go.bits .or .u64 (IntKind.u64.wrap (x3_1 * 256)) (IntKind.u64.wrap (t439))) (wrap64 (x4_1 + 1)) s0_0 t440) = some (r1, r2) := H
    have A3 := Aside0.mk A30
    clear A30
    have H' := Aside0.mk H
    clear H
    go_wp2_with (first | ((with_reducible refine gate_callee (f := 91) rfl ?_); refine goesL_ (some 12) rfl rfl Tryz.func91 (by kernel_rfl) rfl #[.pointer (some ⟨g, 0, none⟩)] rfl q56_ ?_; (with_reducible refine (spec_l1Rd_next.calls g s0_0 x1001_1 t439 t440 w0 _ ?side1 ?side2 A3.out).mono ?_); (case side1 => exact q113_); (case side2 => exact q111_); rintro e w4 ⟨rfl, hi, hb, hk⟩; refine ⟨_, rfl, ?_⟩; have n0_ := Aside0.mk (KeepBut.trans q53_ hk (.inl rfl)); have n1_ := Aside0.mk (hb); have n2_ := Aside0.mk (hi); clear HK; clear HB; clear HI0; have HK := n0_; have HB := n1_; have HI0 := n2_; clear n0_ n1_ n2_; (try clear hb); (try clear hk); (try clear hi)))
    go_roundg k1
    case measure => have := HK1.out; omega
    case rel => exact ⟨(Go.bits .or .u64 (IntKind.u64.wrap (x3_1 * 256)) (IntKind.u64.wrap (t439))), (wrap64 (x4_1 + 1)), (t440), q73_, q73_, H', ⟨by have := HK1.out; omega⟩, ⟨q52_⟩, ⟨q53_⟩, ⟨q40_⟩⟩
   ·rw [if_neg c2] at H
    have c2b0 : decide (x4_1 < 8) = false := decide_eq_false c2
    clear c2
    simp only [Option.some.injEq, Prod.mk.injEq] at H
    obtain ⟨rfl, rfl⟩ := H
    go_wp2
    go_ret
    exact ⟨q59_, q52_, q40_, q53_⟩
def spec_l1Rd_near.f (k : Nat) (s0_0 : List Int) (s0_1 : Int) (a1 : Int) (a2 : Int) : Option (Int × Int) := (spec_l1Rd_below.f s0_0 s0_1 8).bind fun bt441 => (if bt441.1 = 0 then (some (a1, bt441.2)) else (if bt441.1 = 1 then (some (a2, bt441.2)) else (if a2 < a1 then (some (a1, bt441.2)) else ((spec_l1Rd_word.f k s0_0 bt441.2).bind fun bt443 => (if (IntKind.u64.wrap (wrap64 ((wrap64 (a2 - a1)) + 1))) = 0 then (none) else (some (wrap64 (a1 + (wrap64 (Int.tmod (bt443.1 / 2) (IntKind.u64.wrap (wrap64 ((wrap64 (a2 - a1)) + 1)))))), bt443.2)))))))
theorem spec_l1Rd_near.mono : ∀ a0 a1 a2 a3 k, LeO (spec_l1Rd_near.f k a0 a1 a2 a3) (spec_l1Rd_near.f (k + 1) a0 a1 a2 a3) := by
 intro a0 a1 a2 a3 k
 unfold spec_l1Rd_near.f
 repeat' first
   | (with_reducible first | exact spec_l1Rd_word.mono _ _ _ | exact LeO.refl _ | exact LeO.none _ | refine LeO.ite ?_ ?_ | refine LeO.bind ?_ (fun _ => ?_))
   | exact spec_l1Rd_word.mono _ _ _
   | exact LeO.none _
   | refine LeO.ite ?_ ?_
   | refine LeO.bind ?_ (fun _ => ?_)
theorem spec_l1Rd_near.calls (k : Nat) (g : Nat) (s0_0 : List Int) (s0_1 : Int) (a1 : Int) (a2 : Int) (r1 : Int) (r2 : Int) (w0 w : World) (hI : IsS96 w0 w g s0_0 s0_1) (hB : Below w0.heap.size w0 w) (h : spec_l1Rd_near.f k s0_0 s0_1 a1 a2 = some (r1, r2)) :
  Calls Tryz.prog 134 #[.pointer (some ⟨g, 0, none⟩), .int .i64 a1, .int .i64 a2] w fun e w' => e = .returned (.int .i64 r1) ∧ IsS96 w0 w' g s0_0 r2 ∧ Below w0.heap.size w0 w' ∧ KeepBut w w' g none := by
 have HI0 := Aside0.mk hI
 have HK := Aside0.mk (KeepBut.refl w g none)
 have HL := Aside0.mk hB.size
 clear hI
 have HW0 := Aside0.mk hB.size
 have HB := Aside0.mk hB
 clear hB
 have H : ((spec_l1Rd_below.f s0_0 s0_1 8).bind fun bt441 => (if bt441.1 = 0 then (some (a1, bt441.2)) else (if bt441.1 = 1 then (some (a2, bt441.2)) else (if a2 < a1 then (some (a1, bt441.2)) else ((spec_l1Rd_word.f k s0_0 bt441.2).bind fun bt443 => (if (IntKind.u64.wrap (wrap64 ((wrap64 (a2 - a1)) + 1))) = 0 then (none) else (some (wrap64 (a1 + (wrap64 (Int.tmod (bt443.1 / 2) (IntKind.u64.wrap (wrap64 ((wrap64 (a2 - a1)) + 1)))))), bt443.2)))))))) = some (r1, r2) := h
 clear h
 replace H := Option.bind_eq_some_iff.mp H
 obtain ⟨⟨t441, t442⟩, A40, H⟩ := H
 replace H : (if t441 = 0 then (some (a1, t442)) else (if t441 = 1 then (some (a2, t442)) else (if a2 < a1 then (some (a1, t442)) else ((spec_l1Rd_word.f k s0_0 t442).bind fun bt443 => (if (IntKind.u64.wrap (wrap64 ((wrap64 (a2 - a1)) + 1))) = 0 then (none) else (some (wrap64 (a1 + (wrap64 (Int.tmod (bt443.1 / 2) (IntKind.u64.wrap (wrap64 ((wrap64 (a2 - a1)) + 1)))))), bt443.2))))))) = some (r1, r2) := H
 have A4 := Aside0.mk A40
 clear A40
 by_cases c5 : t441 = 0
 ·rw [if_pos c5] at H
  have c5b0 : (t441 == 0) = true := beq_iff_eq.mpr c5
  have c5b1 : (t441 != 0) = false := bne_eq_false_iff_eq.mpr c5
  clear c5
  simp only [Option.some.injEq, Prod.mk.injEq] at H
  obtain ⟨rfl, rfl⟩ := H
  go_enter Tryz.func134, Tryz.ntmps134
  go_wp2_with (first | ((with_reducible refine gate_callee (f := 44) rfl ?_); refine goesL_ (some 8) rfl rfl Tryz.func44 (by kernel_rfl) rfl #[.pointer (some ⟨g, 0, none⟩), .int .i64 8] rfl q56_ ?_; (with_reducible refine (spec_l1Rd_below.calls g s0_0 s0_1 8 t441 t442 w0 _ ?side1 ?side2 A4.out).mono ?_); (case side1 => exact q113_); (case side2 => exact q111_); rintro e w6 ⟨rfl, hi, hb, hk⟩; refine ⟨_, rfl, ?_⟩; have n0_ := Aside0.mk (KeepBut.trans q53_ hk (.inl rfl)); have n1_ := Aside0.mk (hb); have n2_ := Aside0.mk (hi); clear HK; clear HB; clear HI0; have HK := n0_; have HB := n1_; have HI0 := n2_; clear n0_ n1_ n2_; (try clear hb); (try clear hk); (try clear hi)))
  go_ret
  exact ⟨q59_, q52_, q40_, q53_⟩
 ·rw [if_neg c5] at H
  have c5b0 : (t441 == 0) = false := beq_eq_false_iff_ne.mpr c5
  have c5b1 : (t441 != 0) = true := bne_iff_ne.mpr c5
  by_cases c7 : t441 = 1
  ·rw [if_pos c7] at H
   have c7b0 : (t441 == 1) = true := beq_iff_eq.mpr c7
   have c7b1 : (t441 != 1) = false := bne_eq_false_iff_eq.mpr c7
   clear c7
   simp only [Option.some.injEq, Prod.mk.injEq] at H
   obtain ⟨rfl, rfl⟩ := H
   go_enter Tryz.func134, Tryz.ntmps134
   go_wp2_with (first | ((with_reducible refine gate_callee (f := 44) rfl ?_); refine goesL_ (some 8) rfl rfl Tryz.func44 (by kernel_rfl) rfl #[.pointer (some ⟨g, 0, none⟩), .int .i64 8] rfl q56_ ?_; (with_reducible refine (spec_l1Rd_below.calls g s0_0 s0_1 8 t441 t442 w0 _ ?side1 ?side2 A4.out).mono ?_); (case side1 => exact q113_); (case side2 => exact q111_); rintro e w8 ⟨rfl, hi, hb, hk⟩; refine ⟨_, rfl, ?_⟩; have n0_ := Aside0.mk (KeepBut.trans q53_ hk (.inl rfl)); have n1_ := Aside0.mk (hb); have n2_ := Aside0.mk (hi); clear HK; clear HB; clear HI0; have HK := n0_; have HB := n1_; have HI0 := n2_; clear n0_ n1_ n2_; (try clear hb); (try clear hk); (try clear hi)))
   go_ret
   exact ⟨q59_, q52_, q40_, q53_⟩
  ·rw [if_neg c7] at H
   have c7b0 : (t441 == 1) = false := beq_eq_false_iff_ne.mpr c7
   have c7b1 : (t441 != 1) = true := bne_iff_ne.mpr c7
   by_cases c9 : a2 < a1
   ·rw [if_pos c9] at H
    have c9b0 : decide (a2 < a1) = true := decide_eq_true c9
    clear c9
    simp only [Option.some.injEq, Prod.mk.injEq] at H
    obtain ⟨rfl, rfl⟩ := H
    go_enter Tryz.func134, Tryz.ntmps134
    go_wp2_with (first | ((with_reducible refine gate_callee (f := 44) rfl ?_); refine goesL_ (some 8) rfl rfl Tryz.func44 (by kernel_rfl) rfl #[.pointer (some ⟨g, 0, none⟩), .int .i64 8] rfl q56_ ?_; (with_reducible refine (spec_l1Rd_below.calls g s0_0 s0_1 8 t441 t442 w0 _ ?side1 ?side2 A4.out).mono ?_); (case side1 => exact q113_); (case side2 => exact q111_); rintro e w10 ⟨rfl, hi, hb, hk⟩; refine ⟨_, rfl, ?_⟩; have n0_ := Aside0.mk (KeepBut.trans q53_ hk (.inl rfl)); have n1_ := Aside0.mk (hb); have n2_ := Aside0.mk (hi); clear HK; clear HB; clear HI0; have HK := n0_; have HB := n1_; have HI0 := n2_; clear n0_ n1_ n2_; (try clear hb); (try clear hk); (try clear hi)))
    go_ret
    exact ⟨q59_, q52_, q40_, q53_⟩
   ·rw [if_neg c9] at H
    have c9b0 : decide (a2 < a1) = false := decide_eq_false c9
    clear c9
    replace H := Option.bind_eq_some_iff.mp H
    obtain ⟨⟨t443, t444⟩, A110, H⟩ := H
    replace H : (if (IntKind.u64.wrap (wrap64 ((wrap64 (a2 - a1)) + 1))) = 0 then (none) else (some (wrap64 (a1 + (wrap64 (Int.tmod (t443 / 2) (IntKind.u64.wrap (wrap64 ((wrap64 (a2 - a1)) + 1)))))), t444))) = some (r1, r2) := H
    have A11 := Aside0.mk A110
    clear A110
    by_cases c12 : (IntKind.u64.wrap (wrap64 ((wrap64 (a2 - a1)) + 1))) = 0
    ·rw [if_pos c12] at H
     exact absurd H (by simp)
    ·rw [if_neg c12] at H
     have c12b0 : ((IntKind.u64.wrap (wrap64 ((wrap64 (a2 - a1)) + 1))) == 0) = false := beq_eq_false_iff_ne.mpr c12
     have c12b1 : ((IntKind.u64.wrap (wrap64 ((wrap64 (a2 - a1)) + 1))) != 0) = true := bne_iff_ne.mpr c12
     simp only [Option.some.injEq, Prod.mk.injEq] at H
     obtain ⟨rfl, rfl⟩ := H
     go_enter Tryz.func134, Tryz.ntmps134
     go_wp2_with (first | ((with_reducible refine gate_callee (f := 44) rfl ?_); refine goesL_ (some 8) rfl rfl Tryz.func44 (by kernel_rfl) rfl #[.pointer (some ⟨g, 0, none⟩), .int .i64 8] rfl q56_ ?_; (with_reducible refine (spec_l1Rd_below.calls g s0_0 s0_1 8 t441 t442 w0 _ ?side1 ?side2 A4.out).mono ?_); (case side1 => exact q113_); (case side2 => exact q111_); rintro e w13 ⟨rfl, hi, hb, hk⟩; refine ⟨_, rfl, ?_⟩; have n0_ := Aside0.mk (KeepBut.trans q53_ hk (.inl rfl)); have n1_ := Aside0.mk (hb); have n2_ := Aside0.mk (hi); clear HK; clear HB; clear HI0; have HK := n0_; have HB := n1_; have HI0 := n2_; clear n0_ n1_ n2_; (try clear hb); (try clear hk); (try clear hi)) | ((with_reducible refine gate_callee (f := 158) rfl ?_); refine goesL_ (some 21) rfl rfl Tryz.func158 (by kernel_rfl) rfl #[.pointer (some ⟨g, 0, none⟩)] rfl q56_ ?_; (with_reducible refine (spec_l1Rd_word.calls k g s0_0 t442 t443 t444 w0 _ ?side1 ?side2 A11.out).mono ?_); (case side1 => exact q113_); (case side2 => exact q111_); rintro e w14 ⟨rfl, hi, hb, hk⟩; refine ⟨_, rfl, ?_⟩; have n0_ := Aside0.mk (KeepBut.trans q53_ hk (.inl rfl)); have n1_ := Aside0.mk (hb); have n2_ := Aside0.mk (hi); clear HK; clear HB; clear HI0; have HK := n0_; have HB := n1_; have HI0 := n2_; clear n0_ n1_ n2_; (try clear hb); (try clear hk); (try clear hi)))
     go_ret
     exact ⟨q59_, q52_, q40_, q53_⟩
def spec_l1Rd_off.f (k : Nat) (s0_0 : List Int) (s0_1 : Int) (a1 : Int) (a2 : Int) : Option (Int × Int) := (spec_l1Rd_once.f s0_0 s0_1 24).bind fun bt445 => (if bt445.1 = true then ((some (([wrap64 (a1 - 1), wrap64 (a2 + 1), (-9223372036854775808), 9223372036854775807] : List Int) : List Int)).bind fun y447 => ((spec_l1Rd_below.f s0_0 bt445.2 4).bind fun bt450 => (if 0 ≤ bt450.1 then (if bt450.1 < (y447.length : Int) then (some (rd y447 bt450.1, bt450.2)) else (none)) else (none)))) else ((spec_l1Rd_near.f k s0_0 bt445.2 a1 a2).bind fun bt453 => (some (bt453.1, bt453.2))))
theorem spec_l1Rd_off.mono : ∀ a0 a1 a2 a3 k, LeO (spec_l1Rd_off.f k a0 a1 a2 a3) (spec_l1Rd_off.f (k + 1) a0 a1 a2 a3) := by
 intro a0 a1 a2 a3 k
 unfold spec_l1Rd_off.f
 repeat' first
   | (with_reducible first | exact spec_l1Rd_near.mono _ _ _ _ _ | exact LeO.refl _ | exact LeO.none _ | refine LeO.ite ?_ ?_ | refine LeO.bind ?_ (fun _ => ?_))
   | exact spec_l1Rd_near.mono _ _ _ _ _
   | exact LeO.none _
   | refine LeO.ite ?_ ?_
   | refine LeO.bind ?_ (fun _ => ?_)
theorem spec_l1Rd_off.calls (k : Nat) (g : Nat) (s0_0 : List Int) (s0_1 : Int) (a1 : Int) (a2 : Int) (r1 : Int) (r2 : Int) (w0 w : World) (hI : IsS96 w0 w g s0_0 s0_1) (hB : Below w0.heap.size w0 w) (h : spec_l1Rd_off.f k s0_0 s0_1 a1 a2 = some (r1, r2)) :
  Calls Tryz.prog 105 #[.pointer (some ⟨g, 0, none⟩), .int .i64 a1, .int .i64 a2] w fun e w' => e = .returned (.int .i64 r1) ∧ IsS96 w0 w' g s0_0 r2 ∧ Below w0.heap.size w0 w' ∧ KeepBut w w' g none := by
 have HI0 := Aside0.mk hI
 have HK := Aside0.mk (KeepBut.refl w g none)
 have HL := Aside0.mk hB.size
 clear hI
 have HW0 := Aside0.mk hB.size
 have HB := Aside0.mk hB
 clear hB
 have H : ((spec_l1Rd_once.f s0_0 s0_1 24).bind fun bt445 => (if bt445.1 = true then ((some (([wrap64 (a1 - 1), wrap64 (a2 + 1), (-9223372036854775808), 9223372036854775807] : List Int) : List Int)).bind fun y447 => ((spec_l1Rd_below.f s0_0 bt445.2 4).bind fun bt450 => (if 0 ≤ bt450.1 then (if bt450.1 < (y447.length : Int) then (some (rd y447 bt450.1, bt450.2)) else (none)) else (none)))) else ((spec_l1Rd_near.f k s0_0 bt445.2 a1 a2).bind fun bt453 => (some (bt453.1, bt453.2))))) = some (r1, r2) := h
 clear h
 replace H := Option.bind_eq_some_iff.mp H
 obtain ⟨⟨t445, t446⟩, A40, H⟩ := H
 replace H : (if t445 = true then ((some (([wrap64 (a1 - 1), wrap64 (a2 + 1), (-9223372036854775808), 9223372036854775807] : List Int) : List Int)).bind fun y447 => ((spec_l1Rd_below.f s0_0 t446 4).bind fun bt450 => (if 0 ≤ bt450.1 then (if bt450.1 < (y447.length : Int) then (some (rd y447 bt450.1, bt450.2)) else (none)) else (none)))) else ((spec_l1Rd_near.f k s0_0 t446 a1 a2).bind fun bt453 => (some (bt453.1, bt453.2)))) = some (r1, r2) := H
 have A4 := Aside0.mk A40
 clear A40
 by_cases c5 : t445 = true
 ·subst c5
  replace H : ((some (([wrap64 (a1 - 1), wrap64 (a2 + 1), (-9223372036854775808), 9223372036854775807] : List Int) : List Int)).bind fun y447 => ((spec_l1Rd_below.f s0_0 t446 4).bind fun bt450 => (if 0 ≤ bt450.1 then (if bt450.1 < (y447.length : Int) then (some (rd y447 bt450.1, bt450.2)) else (none)) else (none)))) = some (r1, r2) := by rw [if_pos rfl] at H; exact H
  obtain ⟨y447, hy447⟩ : ∃ y_ : List Int, y_ = (([wrap64 (a1 - 1), wrap64 (a2 + 1), (-9223372036854775808), 9223372036854775807] : List Int)) := ⟨_, rfl⟩
  replace H : ((spec_l1Rd_below.f s0_0 t446 4).bind fun bt450 => (if 0 ≤ bt450.1 then (if bt450.1 < (y447.length : Int) then (some (rd y447 bt450.1, bt450.2)) else (none)) else (none))) = some (r1, r2) := by first | (rw [hy447]; with_reducible exact H) | (have H2_ := (Option.bind_some _ _).symm.trans H; rw [hy447]; with_reducible exact H2_) | (have H2_ := (Option.bind_some _ _).symm.trans H; with_reducible exact H2_) | with_reducible exact H | (rw [hy447]; exact H) | exact H
  have Ny447 := Aside0.mk hy447
  clear hy447
  replace H := Option.bind_eq_some_iff.mp H
  obtain ⟨⟨t450, t451⟩, A60, H⟩ := H
  replace H : (if 0 ≤ t450 then (if t450 < (y447.length : Int) then (some (rd y447 t450, t451)) else (none)) else (none)) = some (r1, r2) := H
  have A6 := Aside0.mk A60
  clear A60
  by_cases c7 : 0 ≤ t450
  ·rw [if_pos c7] at H
   have c7b0 : decide (0 ≤ t450) = true := decide_eq_true c7
   clear c7
   by_cases c8 : t450 < (y447.length : Int)
   ·rw [if_pos c8] at H
    have c8b0 : decide (t450 < (y447.length : Int)) = true := decide_eq_true c8
    clear c8
    simp only [Option.some.injEq, Prod.mk.injEq] at H
    obtain ⟨rfl, rfl⟩ := H
    go_enter Tryz.func105, Tryz.ntmps105
    go_wp2_with (first | ((with_reducible refine gate_callee (f := 45) rfl ?_); refine goesL_ (some 8) rfl rfl Tryz.func45 (by kernel_rfl) rfl #[.pointer (some ⟨g, 0, none⟩), .int .i64 24] rfl q56_ ?_; (with_reducible refine (spec_l1Rd_once.calls g s0_0 s0_1 24 true t446 w0 _ ?side1 ?side2 A4.out).mono ?_); (case side1 => exact q113_); (case side2 => exact q111_); rintro e w9 ⟨rfl, hi, hb, hk⟩; refine ⟨_, rfl, ?_⟩; have n0_ := Aside0.mk (KeepBut.trans q53_ hk (.inl rfl)); have n1_ := Aside0.mk (hb); have n2_ := Aside0.mk (hi); clear HK; clear HB; clear HI0; have HK := n0_; have HB := n1_; have HI0 := n2_; clear n0_ n1_ n2_; (try clear hb); (try clear hk); (try clear hi)) | ((with_reducible refine gate_dst (N := 13) rfl ?_); refine Kd.R_lit (Kd.int .i64) _ 2 ?hg (N := 13) ?hd (xs := ([wrap64 (a1 - 1), wrap64 (a2 + 1), (-9223372036854775808), 9223372036854775807] : List Int)) (inner := [.int .i64 (wrap64 (a1 - 1)), .int .i64 (wrap64 (a2 + 1)), .int .i64 (-9223372036854775808), .int .i64 9223372036854775807]) (ok := fun _ => True) (okp := fun _ => True) ?hr ?hp (fun _ hk => hk) trivial (Below.refl _ _) (Nat.le_refl _) (by simp) ?_; (case hd => rfl); (case hg => rfl); (case hr => exact q114_); (case hp => exact (Reps.one (show Kd.M (Kd.int .i64) _ _ _ (wrap64 (a1 - 1)) [.int .i64 (wrap64 (a1 - 1))] from rfl) (Reps.one (show Kd.M (Kd.int .i64) _ _ _ (wrap64 (a2 + 1)) [.int .i64 (wrap64 (a2 + 1))] from rfl) (Reps.one (show Kd.M (Kd.int .i64) _ _ _ (-9223372036854775808) [.int .i64 (-9223372036854775808)] from rfl) (Reps.one (show Kd.M (Kd.int .i64) _ _ _ 9223372036854775807 [.int .i64 9223372036854775807] from rfl) (Reps.none _ _)))))); intro v448 w10 ho11 hb hg_ hnew_; clear hg_ hnew_; (first | rw [← Ny447.out] at ho11 | (simp only [Int.reduceToNat] at ho11; rw [← Ny447.out] at ho11)); have n0_ := Aside0.mk (Kd.R_lower ho11 (keep_size (w := w) (g := g) (row := none) q53_)); have n1_ := Aside0.mk (IsS96.below q52_ hb); have n2_ := Aside0.mk (KeepBut.trans q53_ (KeepBut.of_below hb g none) (.inl rfl)); have n3_ := Aside0.mk (below_step q40_ hb); clear HI0; clear HK; clear HB; have HO449 := n0_; have HI0 := n1_; have HK := n2_; have HB := n3_; clear n0_ n1_ n2_ n3_; clear hb ho11) | ((with_reducible refine gate_callee (f := 44) rfl ?_); refine goesL_ (some 15) rfl rfl Tryz.func44 (by kernel_rfl) rfl #[.pointer (some ⟨g, 0, none⟩), .int .i64 4] rfl q56_ ?_; (with_reducible refine (spec_l1Rd_below.calls g s0_0 t446 4 t450 t451 w0 _ ?side1 ?side2 A6.out).mono ?_); (case side1 => exact q113_); (case side2 => exact q111_); rintro e w12 ⟨rfl, hi, hb, hk⟩; refine ⟨_, rfl, ?_⟩; have n0_ := Aside0.mk (Kd.R_mono (Kd.R_keep (IsS96.apart (show IsS96 w0 _ g s0_0 t446 from by repeat (first | (with_reducible first | exact HI0.out | apply IsS96.alloc | apply IsS96.drewN | apply IsS96.drew | apply IsS96.set_1) | exact HI0.out)) (by (with_reducible repeat (first | apply Kd.R_alloc | apply Kd.R_drewN | apply Kd.R_drew)); exact HO449.out) (by decide)) hk (fun _ h => h.2)) (fun _ h => h.1)); have n1_ := Aside0.mk (KeepBut.trans q53_ hk (.inl rfl)); have n2_ := Aside0.mk (hb); have n3_ := Aside0.mk (hi); clear HO449; clear HK; clear HB; clear HI0; have HO449 := n0_; have HK := n1_; have HB := n2_; have HI0 := n3_; clear n0_ n1_ n2_ n3_; (try clear hb); (try clear hk); (try clear hi); obtain ⟨Ao13, co13, eo13⟩ := Kd.R_slice HO449.out; subst eo13; have p452 : 0 ≤ (t450 : Int) := of_decide_eq_true q87_; have q452 : t450 < (y447.length : Int) := of_decide_eq_true q87_; obtain ⟨ad452, e452, hx452_0⟩ := Kd.at_int (Kd.R_reads' HO449.out).2.2 t450 p452 q452; cases e452; replace p452 := eq_true p452; replace q452 := eq_true q452))
    go_ret
    exact ⟨q59_, q52_, q40_, q53_⟩
   ·rw [if_neg c8] at H
    exact absurd H (by simp)
  ·rw [if_neg c7] at H
   exact absurd H (by simp)
 ·replace c5 := Bool.eq_false_iff.mpr c5
  subst c5
  replace H : ((spec_l1Rd_near.f k s0_0 t446 a1 a2).bind fun bt453 => (some (bt453.1, bt453.2))) = some (r1, r2) := by rw [if_neg (show ¬ (false = true) by decide)] at H; exact H
  replace H := Option.bind_eq_some_iff.mp H
  obtain ⟨⟨t453, t454⟩, A140, H⟩ := H
  replace H : (some (t453, t454)) = some (r1, r2) := H
  have A14 := Aside0.mk A140
  clear A140
  simp only [Option.some.injEq, Prod.mk.injEq] at H
  obtain ⟨rfl, rfl⟩ := H
  go_enter Tryz.func105, Tryz.ntmps105
  go_wp2_with (first | ((with_reducible refine gate_callee (f := 45) rfl ?_); refine goesL_ (some 8) rfl rfl Tryz.func45 (by kernel_rfl) rfl #[.pointer (some ⟨g, 0, none⟩), .int .i64 24] rfl q56_ ?_; (with_reducible refine (spec_l1Rd_once.calls g s0_0 s0_1 24 false t446 w0 _ ?side1 ?side2 A4.out).mono ?_); (case side1 => exact q113_); (case side2 => exact q111_); rintro e w15 ⟨rfl, hi, hb, hk⟩; refine ⟨_, rfl, ?_⟩; have n0_ := Aside0.mk (KeepBut.trans q53_ hk (.inl rfl)); have n1_ := Aside0.mk (hb); have n2_ := Aside0.mk (hi); clear HK; clear HB; clear HI0; have HK := n0_; have HB := n1_; have HI0 := n2_; clear n0_ n1_ n2_; (try clear hb); (try clear hk); (try clear hi)) | ((with_reducible refine gate_callee (f := 134) rfl ?_); refine goesL_ (some 21) rfl rfl Tryz.func134 (by kernel_rfl) rfl #[.pointer (some ⟨g, 0, none⟩), .int .i64 a1, .int .i64 a2] rfl q56_ ?_; (with_reducible refine (spec_l1Rd_near.calls k g s0_0 t446 a1 a2 t453 t454 w0 _ ?side1 ?side2 A14.out).mono ?_); (case side1 => exact q113_); (case side2 => exact q111_); rintro e w16 ⟨rfl, hi, hb, hk⟩; refine ⟨_, rfl, ?_⟩; have n0_ := Aside0.mk (KeepBut.trans q53_ hk (.inl rfl)); have n1_ := Aside0.mk (hb); have n2_ := Aside0.mk (hi); clear HK; clear HB; clear HI0; have HK := n0_; have HB := n1_; have HI0 := n2_; clear n0_ n1_ n2_; (try clear hb); (try clear hk); (try clear hi)))
  go_ret
  exact ⟨q59_, q52_, q40_, q53_⟩
mutual
def spec_l1Rd_ins.j1 : Nat → List Int → Int → Int → Bool → Int → Option (Int × Bool × Int × Int)
 | 0, _, _, _, _, _ => none
 | k + 1, x1000, x1001, x461000, x461001, x461002 => (spec_l1Rd_once.f x1000 x1001 40).bind fun bt468 => (if bt468.1 = true then ((spec_l1Rd_off.f k x1000 bt468.2 0 255).bind fun bt470 => (some (x461000, x461001, bt470.1, bt470.2))) else (some (x461000, x461001, x461002, bt468.2)))
def spec_l1Rd_ins.j0 : Nat → Bool → List Int → Int → Int → Bool → Int → Option (Int × Bool × Int × Int)
 | 0, _, _, _, _, _, _ => none
 | k + 1, x26, x1000, x1001, x461000, x461001, x461002 => if x26 = true then ((spec_l1Rd_byte.f x1000 x1001).bind fun bt466 => (spec_l1Rd_ins.j1 k x1000 bt466.2 x461000 x461001 bt466.1)) else (spec_l1Rd_ins.j1 k x1000 x1001 x461000 x461001 x461002)
end
def spec_l1Rd_ins.f (k : Nat) (s0_0 : List Int) (s0_1 : Int) : Option (Int × Bool × Int × Int) := (spec_l1Rd_below.f s0_0 s0_1 256).bind fun bt456 => ((spec_l1Rd_once.f s0_0 bt456.2 4).bind fun bt458 => ((spec_l3Template.f k bt456.1 bt458.1).bind fun t461 => ((spec_l3Hole.f k t461).bind fun bt462 => (if bt462.2.toList = ([110, 49, 54] : List UInt8) then ((spec_l1Rd_below.f s0_0 bt458.2 65536).bind fun bt464 => (spec_l1Rd_ins.j1 k s0_0 bt464.2 bt456.1 bt458.1 bt464.1)) else (if bt462.2.toList = ([110, 56] : List UInt8) then (spec_l1Rd_ins.j0 k (bt462.2.toList == ([110, 56] : List UInt8)) s0_0 bt458.2 bt456.1 bt458.1 0) else (spec_l1Rd_ins.j0 k (bt462.2.toList == ([101, 56] : List UInt8)) s0_0 bt458.2 bt456.1 bt458.1 0))))))
theorem spec_l1Rd_ins.mono_l : ∀ k, (∀ y0 y1 y2 y3 y4, LeO (spec_l1Rd_ins.j1 k y0 y1 y2 y3 y4) (spec_l1Rd_ins.j1 (k + 1) y0 y1 y2 y3 y4)) ∧ (∀ y0 y1 y2 y3 y4 y5, LeO (spec_l1Rd_ins.j0 k y0 y1 y2 y3 y4 y5) (spec_l1Rd_ins.j0 (k + 1) y0 y1 y2 y3 y4 y5))
 | 0 => ⟨fun _ _ _ _ _ r h => by simp [spec_l1Rd_ins.j1] at h, fun _ _ _ _ _ _ r h => by simp [spec_l1Rd_ins.j0] at h⟩
 | k + 1 => by
  obtain ⟨ih0, ih1⟩ := spec_l1Rd_ins.mono_l k
  refine ⟨?_, ?_⟩
  ·intro y0 y1 y2 y3 y4
   unfold spec_l1Rd_ins.j1
   repeat' first
   | (with_reducible first | exact ih0 _ _ _ _ _ | exact ih1 _ _ _ _ _ _ | exact spec_l1Rd_off.mono _ _ _ _ _ | exact spec_l3Hole.mono _ _ | exact spec_l3Template.mono _ _ _ | exact LeO.refl _ | exact LeO.none _ | refine LeO.ite ?_ ?_ | refine LeO.bind ?_ (fun _ => ?_))
   | exact ih0 _ _ _ _ _
   | exact ih1 _ _ _ _ _ _
   | exact spec_l1Rd_off.mono _ _ _ _ _
   | exact spec_l3Hole.mono _ _
   | exact spec_l3Template.mono _ _ _
   | exact LeO.none _
   | refine LeO.ite ?_ ?_
   | refine LeO.bind ?_ (fun _ => ?_)
  ·intro y0 y1 y2 y3 y4 y5
   unfold spec_l1Rd_ins.j0
   repeat' first
   | (with_reducible first | exact ih0 _ _ _ _ _ | exact ih1 _ _ _ _ _ _ | exact spec_l1Rd_off.mono _ _ _ _ _ | exact spec_l3Hole.mono _ _ | exact spec_l3Template.mono _ _ _ | exact LeO.refl _ | exact LeO.none _ | refine LeO.ite ?_ ?_ | refine LeO.bind ?_ (fun _ => ?_))
   | exact ih0 _ _ _ _ _
   | exact ih1 _ _ _ _ _ _
   | exact spec_l1Rd_off.mono _ _ _ _ _
   | exact spec_l3Hole.mono _ _
   | exact spec_l3Template.mono _ _ _
   | exact LeO.none _
   | refine LeO.ite ?_ ?_
   | refine LeO.bind ?_ (fun _ => ?_)
theorem spec_l1Rd_ins.mono : ∀ a0 a1 k, LeO (spec_l1Rd_ins.f k a0 a1) (spec_l1Rd_ins.f (k + 1) a0 a1) := by
 intro a0 a1 k
 obtain ⟨ih0, ih1⟩ := spec_l1Rd_ins.mono_l k
 unfold spec_l1Rd_ins.f
 repeat' first
   | (with_reducible first | exact ih0 _ _ _ _ _ | exact ih1 _ _ _ _ _ _ | exact spec_l1Rd_off.mono _ _ _ _ _ | exact spec_l3Hole.mono _ _ | exact spec_l3Template.mono _ _ _ | exact LeO.refl _ | exact LeO.none _ | refine LeO.ite ?_ ?_ | refine LeO.bind ?_ (fun _ => ?_))
   | exact ih0 _ _ _ _ _
   | exact ih1 _ _ _ _ _ _
   | exact spec_l1Rd_off.mono _ _ _ _ _
   | exact spec_l3Hole.mono _ _
   | exact spec_l3Template.mono _ _ _
   | exact LeO.none _
   | refine LeO.ite ?_ ?_
   | refine LeO.bind ?_ (fun _ => ?_)
theorem spec_l1Rd_ins.calls (k : Nat) (g : Nat) (s0_0 : List Int) (s0_1 : Int) (r1 : Int) (r2 : Bool) (r3 : Int) (r4 : Int) (w0 w : World) (hI : IsS96 w0 w g s0_0 s0_1) (hB : Below w0.heap.size w0 w) (h : spec_l1Rd_ins.f k s0_0 s0_1 = some (r1, r2, r3, r4)) :
  Calls Tryz.prog 62 #[.pointer (some ⟨g, 0, none⟩)] w fun e w' => e = .returned (.agg #[.int .i64 r1, .bool r2, .int .i64 r3]) ∧ IsS96 w0 w' g s0_0 r4 ∧ Below w0.heap.size w0 w' ∧ KeepBut w w' g none := by
 have hu30 := Tryz.underlying30
 have HI0 := Aside0.mk hI
 have HK := Aside0.mk (KeepBut.refl w g none)
 have HL := Aside0.mk hB.size
 clear hI
 have HW0 := Aside0.mk hB.size
 have HB := Aside0.mk hB
 clear hB
 have H : ((spec_l1Rd_below.f s0_0 s0_1 256).bind fun bt456 => ((spec_l1Rd_once.f s0_0 bt456.2 4).bind fun bt458 => ((spec_l3Template.f k bt456.1 bt458.1).bind fun t461 => ((spec_l3Hole.f k t461).bind fun bt462 => (if bt462.2.toList = ([110, 49, 54] : List UInt8) then ((spec_l1Rd_below.f s0_0 bt458.2 65536).bind fun bt464 => (spec_l1Rd_ins.j1 k s0_0 bt464.2 bt456.1 bt458.1 bt464.1)) else (if bt462.2.toList = ([110, 56] : List UInt8) then (spec_l1Rd_ins.j0 k (bt462.2.toList == ([110, 56] : List UInt8)) s0_0 bt458.2 bt456.1 bt458.1 0) else (spec_l1Rd_ins.j0 k (bt462.2.toList == ([101, 56] : List UInt8)) s0_0 bt458.2 bt456.1 bt458.1 0))))))) = some (r1, r2, r3, r4) := h
 clear h
 replace H := Option.bind_eq_some_iff.mp H
 obtain ⟨⟨t456, t457⟩, A20, H⟩ := H
 replace H : ((spec_l1Rd_once.f s0_0 t457 4).bind fun bt458 => ((spec_l3Template.f k t456 bt458.1).bind fun t461 => ((spec_l3Hole.f k t461).bind fun bt462 => (if bt462.2.toList = ([110, 49, 54] : List UInt8) then ((spec_l1Rd_below.f s0_0 bt458.2 65536).bind fun bt464 => (spec_l1Rd_ins.j1 k s0_0 bt464.2 t456 bt458.1 bt464.1)) else (if bt462.2.toList = ([110, 56] : List UInt8) then (spec_l1Rd_ins.j0 k (bt462.2.toList == ([110, 56] : List UInt8)) s0_0 bt458.2 t456 bt458.1 0) else (spec_l1Rd_ins.j0 k (bt462.2.toList == ([101, 56] : List UInt8)) s0_0 bt458.2 t456 bt458.1 0)))))) = some (r1, r2, r3, r4) := H
 have A2 := Aside0.mk A20
 clear A20
 replace H := Option.bind_eq_some_iff.mp H
 obtain ⟨⟨t458, t459⟩, A30, H⟩ := H
 replace H : ((spec_l3Template.f k t456 t458).bind fun t461 => ((spec_l3Hole.f k t461).bind fun bt462 => (if bt462.2.toList = ([110, 49, 54] : List UInt8) then ((spec_l1Rd_below.f s0_0 t459 65536).bind fun bt464 => (spec_l1Rd_ins.j1 k s0_0 bt464.2 t456 t458 bt464.1)) else (if bt462.2.toList = ([110, 56] : List UInt8) then (spec_l1Rd_ins.j0 k (bt462.2.toList == ([110, 56] : List UInt8)) s0_0 t459 t456 t458 0) else (spec_l1Rd_ins.j0 k (bt462.2.toList == ([101, 56] : List UInt8)) s0_0 t459 t456 t458 0))))) = some (r1, r2, r3, r4) := H
 have A3 := Aside0.mk A30
 clear A30
 replace H := Option.bind_eq_some_iff.mp H
 obtain ⟨t461, A40, H⟩ := H
 have A4 := Aside0.mk A40
 clear A40
 replace H := Option.bind_eq_some_iff.mp H
 obtain ⟨⟨t462, t463⟩, A50, H⟩ := H
 replace H : (if t463.toList = ([110, 49, 54] : List UInt8) then ((spec_l1Rd_below.f s0_0 t459 65536).bind fun bt464 => (spec_l1Rd_ins.j1 k s0_0 bt464.2 t456 t458 bt464.1)) else (if t463.toList = ([110, 56] : List UInt8) then (spec_l1Rd_ins.j0 k (t463.toList == ([110, 56] : List UInt8)) s0_0 t459 t456 t458 0) else (spec_l1Rd_ins.j0 k (t463.toList == ([101, 56] : List UInt8)) s0_0 t459 t456 t458 0))) = some (r1, r2, r3, r4) := H
 have A5 := Aside0.mk A50
 clear A50
 have HC6 := Aside0.mk H
 clear H
 go_enter Tryz.func62, Tryz.ntmps62
 go_upto_block 0 with (first | ((with_reducible refine gate_dst (N := 2) rfl ?_); refine box_event ?hg (N := 2) ?hd (cs := #[.int .i64 0, .bool false, .int .i64 0]) (t := 30) ?hr ?_; (case hd => rfl); (case hg => rfl); (case hr => exact q114_); intro gb455 hg w7 hbox hb; have n0_ := Aside0.mk (IsS96.below q52_ hb); have n1_ := Aside0.mk (KeepBut.trans q53_ (KeepBut.of_below hb g none) (.inl rfl)); have n2_ := Aside0.mk (below_step q40_ hb); have n3_ := Aside0.mk (hbox); have n4_ := Aside0.mk ((q26_ : w.heap.size ≤ gb455)); have n5_ := Aside0.mk ((Nat.le_trans HW0.out (q26_ : w.heap.size ≤ gb455) : w0.heap.size ≤ gb455)); have n6_ := Aside0.mk ((by rw [hg]; exact Nat.ne_of_lt (IsS96.lt (show IsS96 w0 _ g s0_0 s0_1 from by repeat (first | (with_reducible first | exact HI0.out | apply IsS96.alloc | apply IsS96.drewN | apply IsS96.drew | apply IsS96.set_1) | exact HI0.out))) : g ≠ gb455)); have n7_ := Aside0.mk ((by rw [hg]; exact Nat.ne_of_gt (IsS96.lt (show IsS96 w0 _ g s0_0 s0_1 from by repeat (first | (with_reducible first | exact HI0.out | apply IsS96.alloc | apply IsS96.drewN | apply IsS96.drew | apply IsS96.set_1) | exact HI0.out))) : gb455 ≠ g)); clear HI0; clear HK; clear HB; have HI0 := n0_; have HK := n1_; have HB := n2_; have BK455 := n3_; have GW455 := n4_; have GE455 := n5_; have NB0_455 := n6_; have NB455_0 := n7_; clear n0_ n1_ n2_ n3_ n4_ n5_ n6_ n7_; clear hb hbox hg) | ((with_reducible refine gate_callee (f := 44) rfl ?_); refine goesL_ (some 7) rfl rfl Tryz.func44 (by kernel_rfl) rfl #[.pointer (some ⟨g, 0, none⟩), .int .i64 256] rfl q56_ ?_; (with_reducible refine (spec_l1Rd_below.calls g s0_0 s0_1 256 t456 t457 w0 _ ?side1 ?side2 A2.out).mono ?_); (case side1 => exact q110_); (case side2 => exact q109_); rintro e w8 ⟨rfl, hi, hb, hk⟩; refine ⟨_, rfl, ?_⟩; have n0_ := Aside0.mk (KeepBut.blk hk (g' := gb455) (o := .cells #[.int .i64 0, .bool false, .int .i64 0] 30 (0, 0)) q62_ NB455_0.out (by simp)); have n1_ := Aside0.mk (KeepBut.trans q38_ hk (.inl rfl)); have n2_ := Aside0.mk (hb); have n3_ := Aside0.mk (hi); clear BK455; clear HK; clear HB; clear HI0; have BK455 := n0_; have HK := n1_; have HB := n2_; have HI0 := n3_; clear n0_ n1_ n2_ n3_; (try clear hb); (try clear hk); (try clear hi)) | ((with_reducible refine gate_callee (f := 45) rfl ?_); refine goesL_ (some 9) rfl rfl Tryz.func45 (by kernel_rfl) rfl #[.pointer (some ⟨g, 0, none⟩), .int .i64 4] rfl q56_ ?_; (with_reducible refine (spec_l1Rd_once.calls g s0_0 t457 4 t458 t459 w0 _ ?side1 ?side2 A3.out).mono ?_); (case side1 => exact q110_); (case side2 => exact q109_); rintro e w9 ⟨rfl, hi, hb, hk⟩; refine ⟨_, rfl, ?_⟩; have n0_ := Aside0.mk (KeepBut.blk hk (g' := gb455) (o := .cells #[.int .i64 0, .bool false, .int .i64 0] 30 (0, 0)) q62_ NB455_0.out (by simp)); have n1_ := Aside0.mk (KeepBut.trans q38_ hk (.inl rfl)); have n2_ := Aside0.mk (hb); have n3_ := Aside0.mk (hi); clear BK455; clear HK; clear HB; clear HI0; have BK455 := n0_; have HK := n1_; have HB := n2_; have HI0 := n3_; clear n0_ n1_ n2_ n3_; (try clear hb); (try clear hk); (try clear hi)) | ((with_reducible refine gate_dst (N := 3) rfl ?_); refine box_event ?hg (N := 3) ?hd (cs := #[.int .i64 0, .bool false, .int .i64 0]) (t := 30) ?hr ?_; (case hd => rfl); (case hg => rfl); (case hr => exact q114_); intro gb460 hg w10 hbox hb; have n0_ := Aside0.mk (IsS96.below (by repeat (first | (with_reducible first | exact HI0.out | apply IsS96.alloc | apply IsS96.drewN | apply IsS96.drew | apply IsS96.set_1 | refine IsS96.far ?_ NB0_455.out _) | exact HI0.out)) hb); have n1_ := Aside0.mk (blk_below (g := gb455) (o := .cells #[.int .i64 0, .bool false, .int .i64 0] 30 (0, 0)) q62_ hb); have n2_ := Aside0.mk (KeepBut.trans q38_ (KeepBut.of_below hb g none) (.inl rfl)); have n3_ := Aside0.mk (below_step (by repeat (first | (with_reducible first | exact HB.out | apply below_alloc | apply pw_below_drewN | apply below_drew1 | refine below_set ?_ (IsS96.ge HI0.out) | refine below_set ?_ GE455.out) | exact HB.out)) hb); have n4_ := Aside0.mk (hbox); have n5_ := Aside0.mk ((q13_ : w.heap.size ≤ gb460)); have n6_ := Aside0.mk ((Nat.le_trans HW0.out (q13_ : w.heap.size ≤ gb460) : w0.heap.size ≤ gb460)); have n7_ := Aside0.mk ((by rw [hg]; exact Nat.ne_of_lt (blk_lt (g := gb455) (o := .cells #[.int .i64 0, .bool false, .int .i64 0] 30 (0, 0)) q62_) : gb455 ≠ gb460)); have n8_ := Aside0.mk ((by rw [hg]; exact Nat.ne_of_gt (blk_lt (g := gb455) (o := .cells #[.int .i64 0, .bool false, .int .i64 0] 30 (0, 0)) q62_) : gb460 ≠ gb455)); have n9_ := Aside0.mk ((by rw [hg]; exact Nat.ne_of_lt (IsS96.lt (show IsS96 w0 _ g s0_0 t459 from by repeat (first | (with_reducible first | exact HI0.out | apply IsS96.alloc | apply IsS96.drewN | apply IsS96.drew | apply IsS96.set_1 | refine IsS96.far ?_ NB0_455.out _) | exact HI0.out))) : g ≠ gb460)); have n10_ := Aside0.mk ((by rw [hg]; exact Nat.ne_of_gt (IsS96.lt (show IsS96 w0 _ g s0_0 t459 from by repeat (first | (with_reducible first | exact HI0.out | apply IsS96.alloc | apply IsS96.drewN | apply IsS96.drew | apply IsS96.set_1 | refine IsS96.far ?_ NB0_455.out _) | exact HI0.out))) : gb460 ≠ g)); clear HI0; clear BK455; clear HK; clear HB; have HI0 := n0_; have BK455 := n1_; have HK := n2_; have HB := n3_; have BK460 := n4_; have GW460 := n5_; have GE460 := n6_; have NB455_460 := n7_; have NB460_455 := n8_; have NB0_460 := n9_; have NB460_0 := n10_; clear n0_ n1_ n2_ n3_ n4_ n5_ n6_ n7_ n8_ n9_ n10_; clear hb hbox hg; have hnb11 := NB460_455.out; have hnc11 := NB455_460.out; have hnb12 := NB460_0.out; have hnc12 := NB0_460.out; have hcz13_0 : w10.cell? ⟨gb460, 0, none⟩ = some (.int .i64 0) := (blk_cell BK460.out 0).trans rfl; have hcz13_1 : w10.cell? ⟨gb460, 1, none⟩ = some (.bool false) := (blk_cell BK460.out 1).trans rfl; have hcz13_2 : w10.cell? ⟨gb460, 2, none⟩ = some (.int .i64 0) := (blk_cell BK460.out 2).trans rfl; have hfz13_0 := blk_frozen BK460.out 0; have hfz13_1 := blk_frozen BK460.out 1; have hfz13_2 := blk_frozen BK460.out 2) | ((with_reducible refine gate_callee (f := 60) rfl ?_); refine goesL_ (some 16) rfl rfl Tryz.func60 (by kernel_rfl) rfl #[.int .i64 t456, .bool t458] rfl q56_ ?_; (with_reducible refine (spec_l3Template.calls k t456 t458 t461 _ A4.out).mono ?_); rintro e w14 ⟨rfl, hb⟩; refine ⟨_, rfl, ?_⟩; have n0_ := Aside0.mk (IsS96.below (show IsS96 w0 (((w10.setCell ⟨gb460, 0, none⟩ (.int .i64 t456)).setCell ⟨gb460, 1, none⟩ (.bool t458)).setCell ⟨gb460, 2, none⟩ (.int .i64 0)) g s0_0 t459 from by repeat (first | (with_reducible first | exact HI0.out | apply IsS96.alloc | apply IsS96.drewN | apply IsS96.drew | apply IsS96.set_1 | refine IsS96.far ?_ NB0_455.out _ | refine IsS96.far ?_ NB0_460.out _) | exact HI0.out)) hb); have n1_ := Aside0.mk (blk_below (g := gb455) (o := .cells #[.int .i64 0, .bool false, .int .i64 0] 30 (0, 0)) (by (with_reducible repeat (first | refine blk_drewN ?_ _ | refine blk_drew ?_ | refine blk_alloc ?_ _)); refine blk_far ?_ NB455_460.out _; (with_reducible repeat (first | refine blk_drewN ?_ _ | refine blk_drew ?_ | refine blk_alloc ?_ _)); refine blk_far ?_ NB455_460.out _; (with_reducible repeat (first | refine blk_drewN ?_ _ | refine blk_drew ?_ | refine blk_alloc ?_ _)); refine blk_far ?_ NB455_460.out _; (with_reducible repeat (first | refine blk_drewN ?_ _ | refine blk_drew ?_ | refine blk_alloc ?_ _)); exact BK455.out) hb); have n2_ := Aside0.mk (blk_below (g := gb460) (o := .cells #[.int .i64 t456, .bool t458, .int .i64 0] 30 (0, 0)) (by (with_reducible repeat (first | refine blk_drewN ?_ _ | refine blk_drew ?_ | refine blk_alloc ?_ _)); refine blk_put (cs := #[.int .i64 t456, .bool t458, .int .i64 0]) ?_ 2 _ rfl; (with_reducible repeat (first | refine blk_drewN ?_ _ | refine blk_drew ?_ | refine blk_alloc ?_ _)); refine blk_put (cs := #[.int .i64 t456, .bool false, .int .i64 0]) ?_ 1 _ rfl; (with_reducible repeat (first | refine blk_drewN ?_ _ | refine blk_drew ?_ | refine blk_alloc ?_ _)); refine blk_put (cs := #[.int .i64 0, .bool false, .int .i64 0]) ?_ 0 _ rfl; (with_reducible repeat (first | refine blk_drewN ?_ _ | refine blk_drew ?_ | refine blk_alloc ?_ _)); exact BK460.out) hb); have n3_ := Aside0.mk (KeepBut.trans q25_ (KeepBut.of_below hb g none) (.inl rfl)); have n4_ := Aside0.mk (below_step q20_ hb); clear HI0; clear BK455; clear BK460; clear HK; clear HB; have HI0 := n0_; have BK455 := n1_; have BK460 := n2_; have HK := n3_; have HB := n4_; clear n0_ n1_ n2_ n3_ n4_; (try clear hb)) | ((with_reducible refine gate_callee (f := 59) rfl ?_); refine goesL_ (some 17) rfl rfl Tryz.func59 (by kernel_rfl) rfl #[.string t461] rfl q56_ ?_; (with_reducible refine (spec_l3Hole.calls k t461 t462 t463 _ A5.out).mono ?_); rintro e w15 ⟨rfl, hb⟩; refine ⟨_, rfl, ?_⟩; have n0_ := Aside0.mk (IsS96.below q24_ hb); have n1_ := Aside0.mk (blk_below (g := gb455) (o := .cells #[.int .i64 0, .bool false, .int .i64 0] 30 (0, 0)) q62_ hb); have n2_ := Aside0.mk (blk_below (g := gb460) (o := .cells #[.int .i64 t456, .bool t458, .int .i64 0] 30 (0, 0)) q63_ hb); have n3_ := Aside0.mk (KeepBut.trans q25_ (KeepBut.of_below hb g none) (.inl rfl)); have n4_ := Aside0.mk (below_step q20_ hb); clear HI0; clear BK455; clear BK460; clear HK; clear HB; have HI0 := n0_; have BK455 := n1_; have BK460 := n2_; have HK := n3_; have HB := n4_; clear n0_ n1_ n2_ n3_ n4_; (try clear hb)))
 (try simp only [Act.put, List.setIfInBounds_toArray, List.set_cons_zero, List.set_cons_succ])
 go_cut [] (fun wc => ∃ (kq : Nat) (x1001_5 : Int) (x461002_5 : Int), Aside0 (spec_l1Rd_ins.j1 kq s0_0 x1001_5 t456 t458 x461002_5 = some (r1, r2, r3, r4)) ∧ Aside0 (kq ≤ k) ∧ Aside0 (wc.heap[gb455]? = some (.cells #[.int .i64 0, .bool false, .int .i64 0] 30 (0, 0))) ∧ Aside0 (wc.heap[gb460]? = some (.cells #[.int .i64 t456, .bool t458, .int .i64 x461002_5] 30 (0, 0))) ∧ Aside0 (IsS96 w0 wc g s0_0 x1001_5) ∧ Aside0 (KeepBut w wc g none) ∧ Aside0 (Below w0.heap.size w0 wc))
 case first =>
  have H := HC6.out
  clear HC6
  by_cases c16 : t463.toList = ([110, 49, 54] : List UInt8)
  ·rw [if_pos c16] at H
   have c16b0 : (t463.toList == ([110, 49, 54] : List UInt8)) = true := beq_iff_eq.mpr c16
   have c16b1 : (t463.toList != ([110, 49, 54] : List UInt8)) = false := bne_eq_false_iff_eq.mpr c16
   clear c16
   (first | rw [c16b0] | (simp only [i64_w, i32_w]; rw [c16b0]) | skip)
   replace H := Option.bind_eq_some_iff.mp H
   obtain ⟨⟨t464, t465⟩, A170, H⟩ := H
   replace H : (spec_l1Rd_ins.j1 k s0_0 t465 t456 t458 t464) = some (r1, r2, r3, r4) := H
   have A17 := Aside0.mk A170
   clear A170
   have H' := Aside0.mk H
   clear H
   go_wp2_with (first | ((with_reducible refine gate_callee (f := 44) rfl ?_); refine goesL_ (some 24) rfl rfl Tryz.func44 (by kernel_rfl) rfl #[.pointer (some ⟨g, 0, none⟩), .int .i64 65536] rfl q56_ ?_; (with_reducible refine (spec_l1Rd_below.calls g s0_0 t459 65536 t464 t465 w0 _ ?side1 ?side2 A17.out).mono ?_); (case side1 => exact q108_); (case side2 => exact q107_); rintro e w18 ⟨rfl, hi, hb, hk⟩; refine ⟨_, rfl, ?_⟩; have n0_ := Aside0.mk (KeepBut.blk hk (g' := gb455) (o := .cells #[.int .i64 0, .bool false, .int .i64 0] 30 (0, 0)) q62_ NB455_0.out (by simp)); have n1_ := Aside0.mk (KeepBut.blk hk (g' := gb460) (o := .cells #[.int .i64 t456, .bool t458, .int .i64 0] 30 (0, 0)) q63_ NB460_0.out (by simp)); have n2_ := Aside0.mk (KeepBut.trans q25_ hk (.inl rfl)); have n3_ := Aside0.mk (hb); have n4_ := Aside0.mk (hi); clear BK455; clear BK460; clear HK; clear HB; clear HI0; have BK455 := n0_; have BK460 := n1_; have HK := n2_; have HB := n3_; have HI0 := n4_; clear n0_ n1_ n2_ n3_ n4_; (try clear hb); (try clear hk); (try clear hi); have hnb19 := NB460_455.out; have hnc19 := NB455_460.out; have hnb20 := NB460_0.out; have hnc20 := NB0_460.out; have hcz21_0 : w18.cell? ⟨gb460, 0, none⟩ = some (.int .i64 t456) := (blk_cell BK460.out 0).trans rfl; have hcz21_1 : w18.cell? ⟨gb460, 1, none⟩ = some (.bool t458) := (blk_cell BK460.out 1).trans rfl; have hcz21_2 : w18.cell? ⟨gb460, 2, none⟩ = some (.int .i64 0) := (blk_cell BK460.out 2).trans rfl; have hfz21_0 := blk_frozen BK460.out 0; have hfz21_1 := blk_frozen BK460.out 1; have hfz21_2 := blk_frozen BK460.out 2))
   go_meet
   case rel => exact ⟨_, (t465), (t464), H', ⟨q99_⟩, ⟨q12_⟩, ⟨q7_⟩, ⟨q24_⟩, ⟨q25_⟩, ⟨q20_⟩⟩
  ·rw [if_neg c16] at H
   have c16b0 : (t463.toList == ([110, 49, 54] : List UInt8)) = false := beq_eq_false_iff_ne.mpr c16
   have c16b1 : (t463.toList != ([110, 49, 54] : List UInt8)) = true := bne_iff_ne.mpr c16
   (first | rw [c16b0] | (simp only [i64_w, i32_w]; rw [c16b0]) | skip)
   have HC22 := Aside0.mk H
   clear H
   go_upto_if 26 with (fail)
   go_cut [26] (fun v26 wc => ∃ (kq : Nat) (x26_21 : Bool), v26 = .bool x26_21 ∧ Aside0 (spec_l1Rd_ins.j0 kq x26_21 s0_0 t459 t456 t458 0 = some (r1, r2, r3, r4)) ∧ Aside0 (kq ≤ k) ∧ Aside0 (wc.heap[gb455]? = some (.cells #[.int .i64 0, .bool false, .int .i64 0] 30 (0, 0))) ∧ Aside0 (wc.heap[gb460]? = some (.cells #[.int .i64 t456, .bool t458, .int .i64 0] 30 (0, 0))) ∧ Aside0 (IsS96 w0 wc g s0_0 t459) ∧ Aside0 (KeepBut w wc g none) ∧ Aside0 (Below w0.heap.size w0 wc))
   case first =>
    have H := HC22.out
    clear HC22
    by_cases c23 : t463.toList = ([110, 56] : List UInt8)
    ·rw [if_pos c23] at H
     have c23b0 : (t463.toList == ([110, 56] : List UInt8)) = true := beq_iff_eq.mpr c23
     have c23b1 : (t463.toList != ([110, 56] : List UInt8)) = false := bne_eq_false_iff_eq.mpr c23
     clear c23
     (first | rw [c23b0] | (simp only [i64_w, i32_w]; rw [c23b0]) | skip)
     have H' := Aside0.mk H
     clear H
     go_wp2
     go_meet
     case rel => exact ⟨_, ((t463.toList == ([110, 56] : List UInt8))), q73_, H', ⟨q99_⟩, ⟨q62_⟩, ⟨q63_⟩, ⟨q24_⟩, ⟨q25_⟩, ⟨q20_⟩⟩
    ·rw [if_neg c23] at H
     have c23b0 : (t463.toList == ([110, 56] : List UInt8)) = false := beq_eq_false_iff_ne.mpr c23
     have c23b1 : (t463.toList != ([110, 56] : List UInt8)) = true := bne_iff_ne.mpr c23
     (first | rw [c23b0] | (simp only [i64_w, i32_w]; rw [c23b0]) | skip)
     have H' := Aside0.mk H
     clear H
     go_wp2
     go_meet
     case rel => exact ⟨_, ((t463.toList == ([101, 56] : List UInt8))), q73_, H', ⟨q99_⟩, ⟨q62_⟩, ⟨q63_⟩, ⟨q24_⟩, ⟨q25_⟩, ⟨q20_⟩⟩
   case rest =>
    clear HC22
    try clear c1
    try clear c2
    try clear p2
    try clear c4
    try clear c5
    try clear c6
    try clear p6
    try clear c11
    try clear c12
    try clear c16
    try clear c16b0
    try clear c16b1
    try clear c19
    try clear c20
    try clear c23
    try clear c23b0
    try clear c23b1
    try clear hcz13_0 hcz13_1 hcz13_2
    try clear hcz21_0 hcz21_1 hcz21_2
    try clear hfz13_0 hfz13_1 hfz13_2
    try clear hfz21_0 hfz21_1 hfz21_2
    obtain ⟨kq, x26_21, rfl, HA, HJ21, BK455, BK460, HI0, HK, HB⟩ := hcut
    cases kq with
    | zero => exact absurd HA.out (by simp [spec_l1Rd_ins.j0])
    | succ kj21 =>
     have H := HA.out
     clear HA
     simp only [spec_l1Rd_ins.j0] at H
     by_cases c24 : x26_21 = true
     ·subst c24
      replace H : ((spec_l1Rd_byte.f s0_0 t459).bind fun bt466 => (spec_l1Rd_ins.j1 kj21 s0_0 bt466.2 t456 t458 bt466.1)) = some (r1, r2, r3, r4) := by rw [if_pos rfl] at H; exact H
      replace H := Option.bind_eq_some_iff.mp H
      obtain ⟨⟨t466, t467⟩, A250, H⟩ := H
      replace H : (spec_l1Rd_ins.j1 kj21 s0_0 t467 t456 t458 t466) = some (r1, r2, r3, r4) := H
      have A25 := Aside0.mk A250
      clear A250
      have H' := Aside0.mk H
      clear H
      go_wp2_with (first | ((with_reducible refine gate_callee (f := 104) rfl ?_); refine goesL_ (some 30) rfl rfl Tryz.func104 (by kernel_rfl) rfl #[.pointer (some ⟨g, 0, none⟩)] rfl q56_ ?_; (with_reducible refine (spec_l1Rd_byte.calls g s0_0 t459 t466 t467 w0 _ ?side1 ?side2 A25.out).mono ?_); (case side1 => exact q108_); (case side2 => exact q107_); rintro e w26 ⟨rfl, hi, hb, hk⟩; refine ⟨_, rfl, ?_⟩; have n0_ := Aside0.mk (KeepBut.blk hk (g' := gb455) (o := .cells #[.int .i64 0, .bool false, .int .i64 0] 30 (0, 0)) q62_ NB455_0.out (by simp)); have n1_ := Aside0.mk (KeepBut.blk hk (g' := gb460) (o := .cells #[.int .i64 t456, .bool t458, .int .i64 0] 30 (0, 0)) q63_ NB460_0.out (by simp)); have n2_ := Aside0.mk (KeepBut.trans q25_ hk (.inl rfl)); have n3_ := Aside0.mk (hb); have n4_ := Aside0.mk (hi); clear BK455; clear BK460; clear HK; clear HB; clear HI0; have BK455 := n0_; have BK460 := n1_; have HK := n2_; have HB := n3_; have HI0 := n4_; clear n0_ n1_ n2_ n3_ n4_; (try clear hb); (try clear hk); (try clear hi); have hnb27 := NB460_455.out; have hnc27 := NB455_460.out; have hnb28 := NB460_0.out; have hnc28 := NB0_460.out; have hcz29_0 : w26.cell? ⟨gb460, 0, none⟩ = some (.int .i64 t456) := (blk_cell BK460.out 0).trans rfl; have hcz29_1 : w26.cell? ⟨gb460, 1, none⟩ = some (.bool t458) := (blk_cell BK460.out 1).trans rfl; have hcz29_2 : w26.cell? ⟨gb460, 2, none⟩ = some (.int .i64 0) := (blk_cell BK460.out 2).trans rfl; have hfz29_0 := blk_frozen BK460.out 0; have hfz29_1 := blk_frozen BK460.out 1; have hfz29_2 := blk_frozen BK460.out 2))
      go_meet
      case rel => exact ⟨_, (t467), (t466), H', ⟨by have := HJ21.out; first | omega | exact Nat.le_refl _⟩, ⟨q12_⟩, ⟨q7_⟩, ⟨q24_⟩, ⟨q25_⟩, ⟨q20_⟩⟩
     ·replace c24 := Bool.eq_false_iff.mpr c24
      subst c24
      replace H : (spec_l1Rd_ins.j1 kj21 s0_0 t459 t456 t458 0) = some (r1, r2, r3, r4) := by rw [if_neg (show ¬ (false = true) by decide)] at H; exact H
      have H' := Aside0.mk H
      clear H
      go_wp2
      go_meet
      case rel => exact ⟨_, (t459), (0), H', ⟨by have := HJ21.out; first | omega | exact Nat.le_refl _⟩, ⟨q62_⟩, ⟨q63_⟩, ⟨q24_⟩, ⟨q25_⟩, ⟨q20_⟩⟩
 case rest =>
  clear HC6
  try clear c1
  try clear c2
  try clear p2 p2
  try clear c4
  try clear c5
  try clear c6
  try clear p6 p6
  try clear c10
  try clear c11
  try clear c12
  try clear c16
  try clear c16b0
  try clear c16b1
  try clear c19
  try clear c20
  try clear c23
  try clear c23b0
  try clear c23b1
  try clear c24
  try clear c27
  try clear c28
  try clear hcz13_0 hcz13_1 hcz13_2
  try clear hcz21_0 hcz21_1 hcz21_2
  try clear hcz29_0 hcz29_1 hcz29_2
  try clear hfz13_0 hfz13_1 hfz13_2
  try clear hfz21_0 hfz21_1 hfz21_2
  try clear hfz29_0 hfz29_1 hfz29_2
  obtain ⟨kq, x1001_5, x461002_5, HA, HJ5, BK455, BK460, HI0, HK, HB⟩ := hcut
  cases kq with
  | zero => exact absurd HA.out (by simp [spec_l1Rd_ins.j1])
  | succ kj5 =>
   have H := HA.out
   clear HA
   simp only [spec_l1Rd_ins.j1] at H
   replace H := Option.bind_eq_some_iff.mp H
   obtain ⟨⟨t468, t469⟩, A300, H⟩ := H
   replace H : (if t468 = true then ((spec_l1Rd_off.f kj5 s0_0 t469 0 255).bind fun bt470 => (some (t456, t458, bt470.1, bt470.2))) else (some (t456, t458, x461002_5, t469))) = some (r1, r2, r3, r4) := H
   have A30 := Aside0.mk A300
   clear A300
   by_cases c31 : t468 = true
   ·subst c31
    replace H : ((spec_l1Rd_off.f kj5 s0_0 t469 0 255).bind fun bt470 => (some (t456, t458, bt470.1, bt470.2))) = some (r1, r2, r3, r4) := by rw [if_pos rfl] at H; exact H
    replace H := Option.bind_eq_some_iff.mp H
    obtain ⟨⟨t470, t471⟩, A320, H⟩ := H
    replace H : (some (t456, t458, t470, t471)) = some (r1, r2, r3, r4) := H
    have A32 := Aside0.mk A320
    clear A320
    simp only [Option.some.injEq, Prod.mk.injEq] at H
    obtain ⟨rfl, rfl, rfl, rfl⟩ := H
    go_wp2_with (first | ((with_reducible refine gate_callee (f := 45) rfl ?_); refine goesL_ (some 33) rfl rfl Tryz.func45 (by kernel_rfl) rfl #[.pointer (some ⟨g, 0, none⟩), .int .i64 40] rfl q56_ ?_; (with_reducible refine (spec_l1Rd_once.calls g s0_0 x1001_5 40 true t469 w0 _ ?side1 ?side2 A30.out).mono ?_); (case side1 => exact q108_); (case side2 => exact q107_); rintro e w33 ⟨rfl, hi, hb, hk⟩; refine ⟨_, rfl, ?_⟩; have n0_ := Aside0.mk (KeepBut.blk hk (g' := gb455) (o := .cells #[.int .i64 0, .bool false, .int .i64 0] 30 (0, 0)) q62_ NB455_0.out (by simp)); have n1_ := Aside0.mk (KeepBut.blk hk (g' := gb460) (o := .cells #[.int .i64 t456, .bool t458, .int .i64 x461002_5] 30 (0, 0)) q63_ NB460_0.out (by simp)); have n2_ := Aside0.mk (KeepBut.trans q25_ hk (.inl rfl)); have n3_ := Aside0.mk (hb); have n4_ := Aside0.mk (hi); clear BK455; clear BK460; clear HK; clear HB; clear HI0; have BK455 := n0_; have BK460 := n1_; have HK := n2_; have HB := n3_; have HI0 := n4_; clear n0_ n1_ n2_ n3_ n4_; (try clear hb); (try clear hk); (try clear hi)) | ((with_reducible refine gate_callee (f := 105) rfl ?_); refine goesL_ (some 35) rfl rfl Tryz.func105 (by kernel_rfl) rfl #[.pointer (some ⟨g, 0, none⟩), .int .i64 0, .int .i64 255] rfl q56_ ?_; (with_reducible refine (spec_l1Rd_off.calls kj5 g s0_0 t469 0 255 t470 t471 w0 _ ?side1 ?side2 A32.out).mono ?_); (case side1 => exact q108_); (case side2 => exact q107_); rintro e w34 ⟨rfl, hi, hb, hk⟩; refine ⟨_, rfl, ?_⟩; have n0_ := Aside0.mk (KeepBut.blk hk (g' := gb455) (o := .cells #[.int .i64 0, .bool false, .int .i64 0] 30 (0, 0)) q62_ NB455_0.out (by simp)); have n1_ := Aside0.mk (KeepBut.blk hk (g' := gb460) (o := .cells #[.int .i64 t456, .bool t458, .int .i64 x461002_5] 30 (0, 0)) q63_ NB460_0.out (by simp)); have n2_ := Aside0.mk (KeepBut.trans q25_ hk (.inl rfl)); have n3_ := Aside0.mk (hb); have n4_ := Aside0.mk (hi); clear BK455; clear BK460; clear HK; clear HB; clear HI0; have BK455 := n0_; have BK460 := n1_; have HK := n2_; have HB := n3_; have HI0 := n4_; clear n0_ n1_ n2_ n3_ n4_; (try clear hb); (try clear hk); (try clear hi); have hnb35 := NB460_455.out; have hnc35 := NB455_460.out; have hnb36 := NB460_0.out; have hnc36 := NB0_460.out; have hcz37_0 : w34.cell? ⟨gb460, 0, none⟩ = some (.int .i64 t456) := (blk_cell BK460.out 0).trans rfl; have hcz37_1 : w34.cell? ⟨gb460, 1, none⟩ = some (.bool t458) := (blk_cell BK460.out 1).trans rfl; have hcz37_2 : w34.cell? ⟨gb460, 2, none⟩ = some (.int .i64 x461002_5) := (blk_cell BK460.out 2).trans rfl; have hfz37_0 := blk_frozen BK460.out 0; have hfz37_1 := blk_frozen BK460.out 1; have hfz37_2 := blk_frozen BK460.out 2; have hnb38 := NB455_0.out; have hnc38 := NB0_455.out; have hcz39_0 : w34.cell? ⟨gb455, 0, none⟩ = some (.int .i64 0) := (blk_cell BK455.out 0).trans rfl; have hcz39_1 : w34.cell? ⟨gb455, 1, none⟩ = some (.bool false) := (blk_cell BK455.out 1).trans rfl; have hcz39_2 : w34.cell? ⟨gb455, 2, none⟩ = some (.int .i64 0) := (blk_cell BK455.out 2).trans rfl; have hfz39_0 := blk_frozen BK455.out 0; have hfz39_1 := blk_frozen BK455.out 1; have hfz39_2 := blk_frozen BK455.out 2))
    refine bodyPost_ret (results_cell_row rfl _ _ gb455 30 #[.int .i64 t456, .bool t458, .int .i64 t470] (0, 0) _ rfl (by (with_reducible repeat (first | refine blk_drewN ?_ _ | refine blk_drew ?_ | refine blk_alloc ?_ _)); refine blk_put (cs := #[.int .i64 t456, .bool t458, .int .i64 0]) ?_ 2 _ rfl; (with_reducible repeat (first | refine blk_drewN ?_ _ | refine blk_drew ?_ | refine blk_alloc ?_ _)); refine blk_put (cs := #[.int .i64 t456, .bool false, .int .i64 0]) ?_ 1 _ rfl; (with_reducible repeat (first | refine blk_drewN ?_ _ | refine blk_drew ?_ | refine blk_alloc ?_ _)); refine blk_put (cs := #[.int .i64 0, .bool false, .int .i64 0]) ?_ 0 _ rfl; (with_reducible repeat (first | refine blk_drewN ?_ _ | refine blk_drew ?_ | refine blk_alloc ?_ _)); refine blk_far ?_ NB455_460.out _; (with_reducible repeat (first | refine blk_drewN ?_ _ | refine blk_drew ?_ | refine blk_alloc ?_ _)); exact BK455.out) Tryz.underlying30 rfl (by kernel_rfl)) rfl ?_
    exact ⟨q59_, q24_, q20_, q25_⟩
   ·replace c31 := Bool.eq_false_iff.mpr c31
    subst c31
    replace H : (some (t456, t458, x461002_5, t469)) = some (r1, r2, r3, r4) := by rw [if_neg (show ¬ (false = true) by decide)] at H; exact H
    simp only [Option.some.injEq, Prod.mk.injEq] at H
    obtain ⟨rfl, rfl, rfl, rfl⟩ := H
    go_wp2_with (first | ((with_reducible refine gate_callee (f := 45) rfl ?_); refine goesL_ (some 33) rfl rfl Tryz.func45 (by kernel_rfl) rfl #[.pointer (some ⟨g, 0, none⟩), .int .i64 40] rfl q56_ ?_; (with_reducible refine (spec_l1Rd_once.calls g s0_0 x1001_5 40 false t469 w0 _ ?side1 ?side2 A30.out).mono ?_); (case side1 => exact q108_); (case side2 => exact q107_); rintro e w40 ⟨rfl, hi, hb, hk⟩; refine ⟨_, rfl, ?_⟩; have n0_ := Aside0.mk (KeepBut.blk hk (g' := gb455) (o := .cells #[.int .i64 0, .bool false, .int .i64 0] 30 (0, 0)) q62_ NB455_0.out (by simp)); have n1_ := Aside0.mk (KeepBut.blk hk (g' := gb460) (o := .cells #[.int .i64 t456, .bool t458, .int .i64 x461002_5] 30 (0, 0)) q63_ NB460_0.out (by simp)); have n2_ := Aside0.mk (KeepBut.trans q25_ hk (.inl rfl)); have n3_ := Aside0.mk (hb); have n4_ := Aside0.mk (hi); clear BK455; clear BK460; clear HK; clear HB; clear HI0; have BK455 := n0_; have BK460 := n1_; have HK := n2_; have HB := n3_; have HI0 := n4_; clear n0_ n1_ n2_ n3_ n4_; (try clear hb); (try clear hk); (try clear hi); have hnb41 := NB460_455.out; have hnc41 := NB455_460.out; have hnb42 := NB460_0.out; have hnc42 := NB0_460.out; have hcz43_0 : w40.cell? ⟨gb460, 0, none⟩ = some (.int .i64 t456) := (blk_cell BK460.out 0).trans rfl; have hcz43_1 : w40.cell? ⟨gb460, 1, none⟩ = some (.bool t458) := (blk_cell BK460.out 1).trans rfl; have hcz43_2 : w40.cell? ⟨gb460, 2, none⟩ = some (.int .i64 x461002_5) := (blk_cell BK460.out 2).trans rfl; have hfz43_0 := blk_frozen BK460.out 0; have hfz43_1 := blk_frozen BK460.out 1; have hfz43_2 := blk_frozen BK460.out 2; have hnb44 := NB455_0.out; have hnc44 := NB0_455.out; have hcz45_0 : w40.cell? ⟨gb455, 0, none⟩ = some (.int .i64 0) := (blk_cell BK455.out 0).trans rfl; have hcz45_1 : w40.cell? ⟨gb455, 1, none⟩ = some (.bool false) := (blk_cell BK455.out 1).trans rfl; have hcz45_2 : w40.cell? ⟨gb455, 2, none⟩ = some (.int .i64 0) := (blk_cell BK455.out 2).trans rfl; have hfz45_0 := blk_frozen BK455.out 0; have hfz45_1 := blk_frozen BK455.out 1; have hfz45_2 := blk_frozen BK455.out 2))
    refine bodyPost_ret (results_cell_row rfl _ _ gb455 30 #[.int .i64 t456, .bool t458, .int .i64 x461002_5] (0, 0) _ rfl (by (with_reducible repeat (first | refine blk_drewN ?_ _ | refine blk_drew ?_ | refine blk_alloc ?_ _)); refine blk_put (cs := #[.int .i64 t456, .bool t458, .int .i64 0]) ?_ 2 _ rfl; (with_reducible repeat (first | refine blk_drewN ?_ _ | refine blk_drew ?_ | refine blk_alloc ?_ _)); refine blk_put (cs := #[.int .i64 t456, .bool false, .int .i64 0]) ?_ 1 _ rfl; (with_reducible repeat (first | refine blk_drewN ?_ _ | refine blk_drew ?_ | refine blk_alloc ?_ _)); refine blk_put (cs := #[.int .i64 0, .bool false, .int .i64 0]) ?_ 0 _ rfl; (with_reducible repeat (first | refine blk_drewN ?_ _ | refine blk_drew ?_ | refine blk_alloc ?_ _)); exact BK455.out) Tryz.underlying30 rfl (by kernel_rfl)) rfl ?_
    exact ⟨q59_, q24_, q20_, q25_⟩
def spec_DrawInsOk.f (k : Nat) (l0 : List Int) : Option (Int × Bool × Int) := (spec_l1Open.f l0).bind fun bt473 => ((spec_l1Rd_ins.f k bt473.1 bt473.2).bind fun bt476 => (some (bt476.1, bt476.2.1, bt476.2.2.1)))
theorem spec_DrawInsOk.mono : ∀ a0 k, LeO (spec_DrawInsOk.f k a0) (spec_DrawInsOk.f (k + 1) a0) := by
 intro a0 k
 unfold spec_DrawInsOk.f
 repeat' first
   | (with_reducible first | exact spec_l1Rd_ins.mono _ _ _ | exact LeO.refl _ | exact LeO.none _ | refine LeO.ite ?_ ?_ | refine LeO.bind ?_ (fun _ => ?_))
   | exact spec_l1Rd_ins.mono _ _ _
   | exact LeO.none _
   | refine LeO.ite ?_ ?_
   | refine LeO.bind ?_ (fun _ => ?_)
theorem spec_DrawInsOk.calls (k : Nat) (A0 : Option Addr) (c0 : Nat) (l0 : List Int) (r1 : Int) (r2 : Bool) (r3 : Int) (w : World) (hr0 : Kd.C (Kd.int .u8) w A0 l0.length l0) (hc0 : l0.length ≤ c0) (h : spec_DrawInsOk.f k l0 = some (r1, r2, r3)) :
  Calls Tryz.prog 56 #[.slice A0 l0.length c0] w fun e w' => e = .returned (.agg #[.int .i64 r1, .bool r2, .int .i64 r3]) ∧ Below w.heap.size w w' := by
 have hu30 := Tryz.underlying30
 have HR0 := Aside0.mk hr0
 have HC0 := Aside0.mk hc0
 clear hr0 hc0
 have HB := Aside0.mk (Below.refl w.heap.size w)
 have H : ((spec_l1Open.f l0).bind fun bt473 => ((spec_l1Rd_ins.f k bt473.1 bt473.2).bind fun bt476 => (some (bt476.1, bt476.2.1, bt476.2.2.1)))) = some (r1, r2, r3) := h
 clear h
 replace H := Option.bind_eq_some_iff.mp H
 obtain ⟨⟨t473, t474⟩, A20, H⟩ := H
 replace H : ((spec_l1Rd_ins.f k t473 t474).bind fun bt476 => (some (bt476.1, bt476.2.1, bt476.2.2.1))) = some (r1, r2, r3) := H
 have A2 := Aside0.mk A20
 clear A20
 replace H := Option.bind_eq_some_iff.mp H
 obtain ⟨⟨t476, t477, t478, t479⟩, A30, H⟩ := H
 replace H : (some (t476, t477, t478)) = some (r1, r2, r3) := H
 have A3 := Aside0.mk A30
 clear A30
 simp only [Option.some.injEq, Prod.mk.injEq] at H
 obtain ⟨rfl, rfl, rfl⟩ := H
 go_enter Tryz.func56, Tryz.ntmps56
 go_wp2_with (first | ((with_reducible refine gate_dst (N := 2) rfl ?_); refine box_event ?hg (N := 2) ?hd (cs := #[.int .i64 0, .bool false, .int .i64 0]) (t := 30) ?hr ?_; (case hd => rfl); (case hg => rfl); (case hr => exact q114_); intro gb472 hg w4 hbox hb; have n0_ := Aside0.mk (below_step q57_ hb); have n1_ := Aside0.mk (hbox); have n2_ := Aside0.mk ((q43_ : w.heap.size ≤ gb472)); have n3_ := Aside0.mk ((q43_ : w.heap.size ≤ gb472)); clear HB; have HB := n0_; have BK472 := n1_; have GW472 := n2_; have GE472 := n3_; clear n0_ n1_ n2_ n3_; clear hb hbox hg) | ((with_reducible refine gate_callee (f := 43) rfl ?_); refine goesL_ (some 5) rfl rfl Tryz.func43 (by kernel_rfl) rfl #[.slice A0 l0.length c0] rfl q56_ ?_; (with_reducible refine (spec_l1Open.calls _ _ l0 t473 t474 w _ ?side1 ?side2 ?side3 A2.out).mono ?_); (case side1 => repeat (first | (with_reducible first | exact HB.out | apply below_alloc | apply pw_below_drewN | apply below_drew1 | refine below_set ?_ GE472.out) | exact HB.out)); (case side2 => exact HR0.out); (case side3 => exact HC0.out); rintro e w5 ⟨g475, rfl, hi, hb, hb2⟩; refine ⟨_, rfl, ?_⟩; have n0_ := Aside0.mk (blk_below (g := gb472) (o := .cells #[.int .i64 0, .bool false, .int .i64 0] 30 (0, 0)) q64_ hb2); have n1_ := Aside0.mk (hb); have n2_ := Aside0.mk (hi); have n3_ := Aside0.mk (IsS96.ne_blk hi (blk_below (g := gb472) (o := .cells #[.int .i64 0, .bool false, .int .i64 0] 30 (0, 0)) q64_ hb2) (by decide)); have n4_ := Aside0.mk (Ne.symm (IsS96.ne_blk hi (blk_below (g := gb472) (o := .cells #[.int .i64 0, .bool false, .int .i64 0] 30 (0, 0)) q64_ hb2) (by decide))); clear BK472; clear HB; have BK472 := n0_; have HB := n1_; have HI475 := n2_; have NB475_472 := n3_; have NB472_475 := n4_; clear n0_ n1_ n2_ n3_ n4_; (try clear hb); (try clear hb2); (try clear hi)) | ((with_reducible refine gate_callee (f := 62) rfl ?_); refine goesL_ (some 7) rfl rfl Tryz.func62 (by kernel_rfl) rfl #[.pointer (some ⟨g475, 0, none⟩)] rfl q56_ ?_; (with_reducible refine (spec_l1Rd_ins.calls k g475 t473 t474 t476 t477 t478 t479 w _ ?side1 ?side2 A3.out).mono ?_); (case side1 => repeat (first | (with_reducible first | exact HI475.out | apply IsS96.alloc | apply IsS96.drewN | apply IsS96.drew | apply IsS96.set_1 | refine IsS96.far ?_ NB475_472.out _) | exact HI475.out)); (case side2 => repeat (first | (with_reducible first | exact HB.out | apply below_alloc | apply pw_below_drewN | apply below_drew1 | refine below_set ?_ (IsS96.ge HI475.out) | refine below_set ?_ GE472.out) | exact HB.out)); rintro e w6 ⟨rfl, hi, hb, hk⟩; refine ⟨_, rfl, ?_⟩; have n0_ := Aside0.mk (KeepBut.blk hk (g' := gb472) (o := .cells #[.int .i64 0, .bool false, .int .i64 0] 30 (0, 0)) q64_ NB472_475.out (by simp)); have n1_ := Aside0.mk (hb); have n2_ := Aside0.mk (hi); clear BK472; clear HB; clear HI475; have BK472 := n0_; have HB := n1_; have HI475 := n2_; clear n0_ n1_ n2_; (try clear hb); (try clear hk); (try clear hi); have hnb7 := NB472_475.out; have hnc7 := NB475_472.out; have hcz8_0 : w6.cell? ⟨gb472, 0, none⟩ = some (.int .i64 0) := (blk_cell BK472.out 0).trans rfl; have hcz8_1 : w6.cell? ⟨gb472, 1, none⟩ = some (.bool false) := (blk_cell BK472.out 1).trans rfl; have hcz8_2 : w6.cell? ⟨gb472, 2, none⟩ = some (.int .i64 0) := (blk_cell BK472.out 2).trans rfl; have hfz8_0 := blk_frozen BK472.out 0; have hfz8_1 := blk_frozen BK472.out 1; have hfz8_2 := blk_frozen BK472.out 2))
 refine bodyPost_ret (results_cell_row rfl _ _ gb472 30 #[.int .i64 t476, .bool t477, .int .i64 t478] (0, 0) _ rfl (by (with_reducible repeat (first | refine blk_drewN ?_ _ | refine blk_drew ?_ | refine blk_alloc ?_ _)); refine blk_put (cs := #[.int .i64 t476, .bool t477, .int .i64 0]) ?_ 2 _ rfl; (with_reducible repeat (first | refine blk_drewN ?_ _ | refine blk_drew ?_ | refine blk_alloc ?_ _)); refine blk_put (cs := #[.int .i64 t476, .bool false, .int .i64 0]) ?_ 1 _ rfl; (with_reducible repeat (first | refine blk_drewN ?_ _ | refine blk_drew ?_ | refine blk_alloc ?_ _)); refine blk_put (cs := #[.int .i64 0, .bool false, .int .i64 0]) ?_ 0 _ rfl; (with_reducible repeat (first | refine blk_drewN ?_ _ | refine blk_drew ?_ | refine blk_alloc ?_ _)); exact BK472.out) Tryz.underlying30 rfl (by kernel_rfl)) rfl ?_
 exact ⟨q59_, by repeat (first | (with_reducible first | exact HB.out | apply below_alloc | apply pw_below_drewN | apply below_drew1 | refine below_set ?_ (IsS96.ge HI475.out) | refine below_set ?_ GE472.out) | exact HB.out)⟩
def spec_DrawInsBytes.f (k : Nat) (l0 : List Int) : Option (Int × Bool × Int) := (spec_DrawInsOk.f k l0).bind fun bt481 => (some (bt481.1, bt481.2.1, bt481.2.2))
theorem spec_DrawInsBytes.mono : ∀ a0 k, LeO (spec_DrawInsBytes.f k a0) (spec_DrawInsBytes.f (k + 1) a0) := by
 intro a0 k
 unfold spec_DrawInsBytes.f
 repeat' first
   | (with_reducible first | exact spec_DrawInsOk.mono _ _ | exact LeO.refl _ | exact LeO.none _ | refine LeO.ite ?_ ?_ | refine LeO.bind ?_ (fun _ => ?_))
   | exact spec_DrawInsOk.mono _ _
   | exact LeO.none _
   | refine LeO.ite ?_ ?_
   | refine LeO.bind ?_ (fun _ => ?_)
theorem spec_DrawInsBytes.calls (k : Nat) (A0 : Option Addr) (c0 : Nat) (l0 : List Int) (r1 : Int) (r2 : Bool) (r3 : Int) (w : World) (hr0 : Kd.C (Kd.int .u8) w A0 l0.length l0) (hc0 : l0.length ≤ c0) (h : spec_DrawInsBytes.f k l0 = some (r1, r2, r3)) :
  Calls Tryz.prog 18 #[.slice A0 l0.length c0] w fun e w' => e = .returned (.agg #[.int .i64 r1, .bool r2, .int .i64 r3]) ∧ Below w.heap.size w w' := by
 have hu30 := Tryz.underlying30
 have HR0 := Aside0.mk hr0
 have HC0 := Aside0.mk hc0
 clear hr0 hc0
 have HB := Aside0.mk (Below.refl w.heap.size w)
 have H : ((spec_DrawInsOk.f k l0).bind fun bt481 => (some (bt481.1, bt481.2.1, bt481.2.2))) = some (r1, r2, r3) := h
 clear h
 replace H := Option.bind_eq_some_iff.mp H
 obtain ⟨⟨t481, t482, t483⟩, A20, H⟩ := H
 replace H : (some (t481, t482, t483)) = some (r1, r2, r3) := H
 have A2 := Aside0.mk A20
 clear A20
 simp only [Option.some.injEq, Prod.mk.injEq] at H
 obtain ⟨rfl, rfl, rfl⟩ := H
 go_enter Tryz.func18, Tryz.ntmps18
 go_wp2_with (first | ((with_reducible refine gate_dst (N := 2) rfl ?_); refine box_event ?hg (N := 2) ?hd (cs := #[.int .i64 0, .bool false, .int .i64 0]) (t := 30) ?hr ?_; (case hd => rfl); (case hg => rfl); (case hr => exact q114_); intro gb480 hg w3 hbox hb; have n0_ := Aside0.mk (below_step q57_ hb); have n1_ := Aside0.mk (hbox); have n2_ := Aside0.mk ((q43_ : w.heap.size ≤ gb480)); have n3_ := Aside0.mk ((q43_ : w.heap.size ≤ gb480)); clear HB; have HB := n0_; have BK480 := n1_; have GW480 := n2_; have GE480 := n3_; clear n0_ n1_ n2_ n3_; clear hb hbox hg) | ((with_reducible refine gate_callee (f := 56) rfl ?_); refine goesL_ (some 4) rfl rfl Tryz.func56 (by kernel_rfl) rfl #[.slice A0 l0.length c0] rfl q56_ ?_; (with_reducible refine (spec_DrawInsOk.calls k _ _ l0 t481 t482 t483 _ ?side1 ?side2 A2.out).mono ?_); (case side1 => repeat (first | exact (Kd.C_below HR0.out HB.out) | (with_reducible refine Kd.C_alloc ?_ _) | (with_reducible refine Kd.C_drewN ?_ _) | (with_reducible refine Kd.C_drew ?_))); (case side2 => exact HC0.out); rintro e w4 ⟨rfl, hb⟩; refine ⟨_, rfl, ?_⟩; have n0_ := Aside0.mk (blk_below (g := gb480) (o := .cells #[.int .i64 0, .bool false, .int .i64 0] 30 (0, 0)) (by (with_reducible repeat (first | refine blk_drewN ?_ _ | refine blk_drew ?_ | refine blk_alloc ?_ _)); exact BK480.out) hb); have n1_ := Aside0.mk (below_step q46_ hb); clear BK480; clear HB; have BK480 := n0_; have HB := n1_; clear n0_ n1_; (try clear hb); have hcz5_0 : w4.cell? ⟨gb480, 0, none⟩ = some (.int .i64 0) := (blk_cell BK480.out 0).trans rfl; have hcz5_1 : w4.cell? ⟨gb480, 1, none⟩ = some (.bool false) := (blk_cell BK480.out 1).trans rfl; have hcz5_2 : w4.cell? ⟨gb480, 2, none⟩ = some (.int .i64 0) := (blk_cell BK480.out 2).trans rfl; have hfz5_0 := blk_frozen BK480.out 0; have hfz5_1 := blk_frozen BK480.out 1; have hfz5_2 := blk_frozen BK480.out 2))
 refine bodyPost_ret (results_cell_row rfl _ _ gb480 30 #[.int .i64 t481, .bool t482, .int .i64 t483] (0, 0) _ rfl (by (with_reducible repeat (first | refine blk_drewN ?_ _ | refine blk_drew ?_ | refine blk_alloc ?_ _)); refine blk_put (cs := #[.int .i64 t481, .bool t482, .int .i64 0]) ?_ 2 _ rfl; (with_reducible repeat (first | refine blk_drewN ?_ _ | refine blk_drew ?_ | refine blk_alloc ?_ _)); refine blk_put (cs := #[.int .i64 t481, .bool false, .int .i64 0]) ?_ 1 _ rfl; (with_reducible repeat (first | refine blk_drewN ?_ _ | refine blk_drew ?_ | refine blk_alloc ?_ _)); refine blk_put (cs := #[.int .i64 0, .bool false, .int .i64 0]) ?_ 0 _ rfl; (with_reducible repeat (first | refine blk_drewN ?_ _ | refine blk_drew ?_ | refine blk_alloc ?_ _)); exact BK480.out) Tryz.underlying30 rfl (by kernel_rfl)) rfl ?_
 exact ⟨q59_, q46_⟩
def spec_l3Length.f (k : Nat) (a0 : Int) (a1 : Bool) : Option (Int) := (spec_l3Template.f k a0 a1).bind fun t484 => (if t484.toList = ([] : List UInt8) then (some 0) else (if a1 = true then (some 2) else ((spec_l3Hole.f k t484).bind fun bt485 => (if bt485.2.toList = ([] : List UInt8) then (some 1) else (if bt485.2.toList = ([110, 49, 54] : List UInt8) then (some 3) else (some 2))))))
theorem spec_l3Length.mono : ∀ a0 a1 k, LeO (spec_l3Length.f k a0 a1) (spec_l3Length.f (k + 1) a0 a1) := by
 intro a0 a1 k
 unfold spec_l3Length.f
 repeat' first
   | (with_reducible first | exact spec_l3Hole.mono _ _ | exact spec_l3Template.mono _ _ _ | exact LeO.refl _ | exact LeO.none _ | refine LeO.ite ?_ ?_ | refine LeO.bind ?_ (fun _ => ?_))
   | exact spec_l3Hole.mono _ _
   | exact spec_l3Template.mono _ _ _
   | exact LeO.none _
   | refine LeO.ite ?_ ?_
   | refine LeO.bind ?_ (fun _ => ?_)
theorem spec_l3Length.calls (k : Nat) (a0 : Int) (a1 : Bool) (r : Int) (w : World) (h : spec_l3Length.f k a0 a1 = some r) :
  Calls Tryz.prog 52 #[.int .i64 a0, .bool a1] w fun e w' => e = .returned (.int .i64 r) ∧ Below w.heap.size w w' := by
 have HB := Aside0.mk (Below.refl w.heap.size w)
 have H : ((spec_l3Template.f k a0 a1).bind fun t484 => (if t484.toList = ([] : List UInt8) then (some 0) else (if a1 = true then (some 2) else ((spec_l3Hole.f k t484).bind fun bt485 => (if bt485.2.toList = ([] : List UInt8) then (some 1) else (if bt485.2.toList = ([110, 49, 54] : List UInt8) then (some 3) else (some 2))))))) = some r := h
 clear h
 replace H := Option.bind_eq_some_iff.mp H
 obtain ⟨t484, A30, H⟩ := H
 have A3 := Aside0.mk A30
 clear A30
 by_cases c4 : t484.toList = ([] : List UInt8)
 ·rw [if_pos c4] at H
  have c4b0 : (t484.toList == ([] : List UInt8)) = true := beq_iff_eq.mpr c4
  have c4b1 : (t484.toList != ([] : List UInt8)) = false := bne_eq_false_iff_eq.mpr c4
  clear c4
  obtain rfl := Option.some.inj H
  go_enter Tryz.func52, Tryz.ntmps52
  go_wp2_with (first | ((with_reducible refine gate_callee (f := 60) rfl ?_); refine goesL_ (some 10) rfl rfl Tryz.func60 (by kernel_rfl) rfl #[.int .i64 a0, .bool a1] rfl q56_ ?_; (with_reducible refine (spec_l3Template.calls k a0 a1 t484 _ A3.out).mono ?_); rintro e w5 ⟨rfl, hb⟩; refine ⟨_, rfl, ?_⟩; replace HB := Aside0.mk (below_step q57_ hb); (try clear hb)))
  go_ret
  exact ⟨q59_, q57_⟩
 ·rw [if_neg c4] at H
  have c4b0 : (t484.toList == ([] : List UInt8)) = false := beq_eq_false_iff_ne.mpr c4
  have c4b1 : (t484.toList != ([] : List UInt8)) = true := bne_iff_ne.mpr c4
  by_cases c6 : a1 = true
  ·subst c6
   replace H : (some 2) = some r := by rw [if_pos rfl] at H; exact H
   obtain rfl := Option.some.inj H
   go_enter Tryz.func52, Tryz.ntmps52
   go_wp2_with (first | ((with_reducible refine gate_callee (f := 60) rfl ?_); refine goesL_ (some 10) rfl rfl Tryz.func60 (by kernel_rfl) rfl #[.int .i64 a0, .bool true] rfl q56_ ?_; (with_reducible refine (spec_l3Template.calls k a0 true t484 _ A3.out).mono ?_); rintro e w7 ⟨rfl, hb⟩; refine ⟨_, rfl, ?_⟩; replace HB := Aside0.mk (below_step q57_ hb); (try clear hb)))
   go_ret
   exact ⟨q59_, q57_⟩
  ·replace c6 := Bool.eq_false_iff.mpr c6
   subst c6
   replace H : ((spec_l3Hole.f k t484).bind fun bt485 => (if bt485.2.toList = ([] : List UInt8) then (some 1) else (if bt485.2.toList = ([110, 49, 54] : List UInt8) then (some 3) else (some 2)))) = some r := by rw [if_neg (show ¬ (false = true) by decide)] at H; exact H
   replace H := Option.bind_eq_some_iff.mp H
   obtain ⟨⟨t485, t486⟩, A80, H⟩ := H
   replace H : (if t486.toList = ([] : List UInt8) then (some 1) else (if t486.toList = ([110, 49, 54] : List UInt8) then (some 3) else (some 2))) = some r := H
   have A8 := Aside0.mk A80
   clear A80
   by_cases c9 : t486.toList = ([] : List UInt8)
   ·rw [if_pos c9] at H
    have c9b0 : (t486.toList == ([] : List UInt8)) = true := beq_iff_eq.mpr c9
    have c9b1 : (t486.toList != ([] : List UInt8)) = false := bne_eq_false_iff_eq.mpr c9
    clear c9
    obtain rfl := Option.some.inj H
    go_enter Tryz.func52, Tryz.ntmps52
    go_wp2_with (first | ((with_reducible refine gate_callee (f := 60) rfl ?_); refine goesL_ (some 10) rfl rfl Tryz.func60 (by kernel_rfl) rfl #[.int .i64 a0, .bool false] rfl q56_ ?_; (with_reducible refine (spec_l3Template.calls k a0 false t484 _ A3.out).mono ?_); rintro e w10 ⟨rfl, hb⟩; refine ⟨_, rfl, ?_⟩; replace HB := Aside0.mk (below_step q57_ hb); (try clear hb)) | ((with_reducible refine gate_callee (f := 59) rfl ?_); refine goesL_ (some 16) rfl rfl Tryz.func59 (by kernel_rfl) rfl #[.string t484] rfl q56_ ?_; (with_reducible refine (spec_l3Hole.calls k t484 t485 t486 _ A8.out).mono ?_); rintro e w11 ⟨rfl, hb⟩; refine ⟨_, rfl, ?_⟩; replace HB := Aside0.mk (below_step q57_ hb); (try clear hb)))
    go_ret
    exact ⟨q59_, q57_⟩
   ·rw [if_neg c9] at H
    have c9b0 : (t486.toList == ([] : List UInt8)) = false := beq_eq_false_iff_ne.mpr c9
    have c9b1 : (t486.toList != ([] : List UInt8)) = true := bne_iff_ne.mpr c9
    by_cases c12 : t486.toList = ([110, 49, 54] : List UInt8)
    ·rw [if_pos c12] at H
     have c12b0 : (t486.toList == ([110, 49, 54] : List UInt8)) = true := beq_iff_eq.mpr c12
     have c12b1 : (t486.toList != ([110, 49, 54] : List UInt8)) = false := bne_eq_false_iff_eq.mpr c12
     clear c12
     obtain rfl := Option.some.inj H
     go_enter Tryz.func52, Tryz.ntmps52
     go_wp2_with (first | ((with_reducible refine gate_callee (f := 60) rfl ?_); refine goesL_ (some 10) rfl rfl Tryz.func60 (by kernel_rfl) rfl #[.int .i64 a0, .bool false] rfl q56_ ?_; (with_reducible refine (spec_l3Template.calls k a0 false t484 _ A3.out).mono ?_); rintro e w13 ⟨rfl, hb⟩; refine ⟨_, rfl, ?_⟩; replace HB := Aside0.mk (below_step q57_ hb); (try clear hb)) | ((with_reducible refine gate_callee (f := 59) rfl ?_); refine goesL_ (some 16) rfl rfl Tryz.func59 (by kernel_rfl) rfl #[.string t484] rfl q56_ ?_; (with_reducible refine (spec_l3Hole.calls k t484 t485 t486 _ A8.out).mono ?_); rintro e w14 ⟨rfl, hb⟩; refine ⟨_, rfl, ?_⟩; replace HB := Aside0.mk (below_step q57_ hb); (try clear hb)))
     go_ret
     exact ⟨q59_, q57_⟩
    ·rw [if_neg c12] at H
     have c12b0 : (t486.toList == ([110, 49, 54] : List UInt8)) = false := beq_eq_false_iff_ne.mpr c12
     have c12b1 : (t486.toList != ([110, 49, 54] : List UInt8)) = true := bne_iff_ne.mpr c12
     obtain rfl := Option.some.inj H
     go_enter Tryz.func52, Tryz.ntmps52
     go_wp2_with (first | ((with_reducible refine gate_callee (f := 60) rfl ?_); refine goesL_ (some 10) rfl rfl Tryz.func60 (by kernel_rfl) rfl #[.int .i64 a0, .bool false] rfl q56_ ?_; (with_reducible refine (spec_l3Template.calls k a0 false t484 _ A3.out).mono ?_); rintro e w15 ⟨rfl, hb⟩; refine ⟨_, rfl, ?_⟩; replace HB := Aside0.mk (below_step q57_ hb); (try clear hb)) | ((with_reducible refine gate_callee (f := 59) rfl ?_); refine goesL_ (some 16) rfl rfl Tryz.func59 (by kernel_rfl) rfl #[.string t484] rfl q56_ ?_; (with_reducible refine (spec_l3Hole.calls k t484 t485 t486 _ A8.out).mono ?_); rintro e w16 ⟨rfl, hb⟩; refine ⟨_, rfl, ?_⟩; replace HB := Aside0.mk (below_step q57_ hb); (try clear hb)))
     go_ret
     exact ⟨q59_, q57_⟩
def spec_LengthOf.f (k : Nat) (a0 : Int) (a1 : Bool) : Option (Int) := (spec_l1In.f a0 0 255).bind fun t487 => (if t487 = true then ((spec_l3Length.f k a0 a1).bind fun t488 => (some t488)) else (some 0))
theorem spec_LengthOf.mono : ∀ a0 a1 k, LeO (spec_LengthOf.f k a0 a1) (spec_LengthOf.f (k + 1) a0 a1) := by
 intro a0 a1 k
 unfold spec_LengthOf.f
 repeat' first
   | (with_reducible first | exact spec_l3Length.mono _ _ _ | exact LeO.refl _ | exact LeO.none _ | refine LeO.ite ?_ ?_ | refine LeO.bind ?_ (fun _ => ?_))
   | exact spec_l3Length.mono _ _ _
   | exact LeO.none _
   | refine LeO.ite ?_ ?_
   | refine LeO.bind ?_ (fun _ => ?_)
theorem spec_LengthOf.calls (k : Nat) (a0 : Int) (a1 : Bool) (r : Int) (w : World) (h : spec_LengthOf.f k a0 a1 = some r) :
  Calls Tryz.prog 15 #[.int .i64 a0, .bool a1] w fun e w' => e = .returned (.int .i64 r) ∧ Below w.heap.size w w' := by
 have HB := Aside0.mk (Below.refl w.heap.size w)
 have H : ((spec_l1In.f a0 0 255).bind fun t487 => (if t487 = true then ((spec_l3Length.f k a0 a1).bind fun t488 => (some t488)) else (some 0))) = some r := h
 clear h
 replace H := Option.bind_eq_some_iff.mp H
 obtain ⟨t487, A30, H⟩ := H
 have A3 := Aside0.mk A30
 clear A30
 by_cases c4 : t487 = true
 ·subst c4
  replace H : ((spec_l3Length.f k a0 a1).bind fun t488 => (some t488)) = some r := by rw [if_pos rfl] at H; exact H
  replace H := Option.bind_eq_some_iff.mp H
  obtain ⟨t488, A50, H⟩ := H
  have A5 := Aside0.mk A50
  clear A50
  obtain rfl := Option.some.inj H
  go_enter Tryz.func15, Tryz.ntmps15
  go_wp2_with (first | ((with_reducible refine gate_callee (f := 51) rfl ?_); refine goesL_ (some 6) rfl rfl Tryz.func51 (by kernel_rfl) rfl #[.int .i64 a0, .int .i64 0, .int .i64 255] rfl q56_ ?_; (with_reducible refine (spec_l1In.calls a0 0 255 true _ A3.out).mono ?_); rintro e w' ⟨rfl, ⟨nd, rfl⟩⟩; refine ⟨_, rfl, ?_⟩) | ((with_reducible refine gate_callee (f := 52) rfl ?_); refine goesL_ (some 10) rfl rfl Tryz.func52 (by kernel_rfl) rfl #[.int .i64 a0, .bool a1] rfl q56_ ?_; (with_reducible refine (spec_l3Length.calls k a0 a1 t488 _ A5.out).mono ?_); rintro e w6 ⟨rfl, hb⟩; refine ⟨_, rfl, ?_⟩; replace HB := Aside0.mk (below_step q57_ hb); (try clear hb)))
  go_ret
  exact ⟨q59_, q57_⟩
 ·replace c4 := Bool.eq_false_iff.mpr c4
  subst c4
  replace H : (some 0) = some r := by rw [if_neg (show ¬ (false = true) by decide)] at H; exact H
  obtain rfl := Option.some.inj H
  go_enter Tryz.func15, Tryz.ntmps15
  go_wp2_with (first | ((with_reducible refine gate_callee (f := 51) rfl ?_); refine goesL_ (some 6) rfl rfl Tryz.func51 (by kernel_rfl) rfl #[.int .i64 a0, .int .i64 0, .int .i64 255] rfl q56_ ?_; (with_reducible refine (spec_l1In.calls a0 0 255 false _ A3.out).mono ?_); rintro e w' ⟨rfl, ⟨nd, rfl⟩⟩; refine ⟨_, rfl, ?_⟩))
  go_ret
  exact ⟨q59_, q57_⟩
end Go.Proofs.YtodlnnoekccmmaaGreatDoor.QFnIns
