/- The machine's side of a law, written by a program of this session for this claim. -/
import Derived.Test.YtcohcndliaaacaaZFnCartReadsQq
import Derived.Test.YtcohcndliaaacaaZFnCartReadsQFnCartReadsx0
import Derived.Test.YtcohcndliaaacaaZFnCartReadsQFnCartReadsx1
import Derived.Test.YtcohcndliaaacaaZFnCartReadsQFnCartReadsx11
namespace Go.Proofs.Ytcohcndliaaacaa.QFnCartReads
open Go.Proofs.Ytcohcndliaaacaa.Qq
open Go.RowKit Go.Proofs.Ytcohcndliaaacaa.LibX Go.Proofs.Ytcohcndliaaacaa.LibC Go.Proofs.YtcohcndliaaacaaW.PrintWords Go.Proofs.YtcohcndliaaacaaW.PrintLast Go.Proofs.YtcohcndliaaacaaW.PrintMore
attribute [local go_sem] max2_int min2_int max_two min_two max_three min_three max_four min_four   -- for this text's walks alone
set_option maxHeartbeats 8000000
set_option maxRecDepth 100000
set_option linter.unusedVariables false
set_option linter.unusedSimpArgs false
def impl_Cart_ramPlace.j0 : Nat → Int → Bool → ByteArray → Int → Int → ByteArray → Int → Bool → Int → Option (Int)
 | 0, _, _, _, _, _, _, _, _, _ => none
 | k + 1, x1, x13, x494000, x494001, x494002, x494003, x494004, x494005, x494006 => if x13 = true then (some (-1)) else (if x494001 = 1 then (if x494006 = 0 then (some (wrap64 ((wrap64 ((0 * 64) + x1)) - 40960))) else (some (wrap64 ((wrap64 ((wrap64 (x494004 * 64)) + x1)) - 40960)))) else (some (wrap64 ((wrap64 ((wrap64 (x494004 * 64)) + x1)) - 40960))))
def impl_Cart_ramPlace.f (k : Nat) (a0_0 : ByteArray) (a0_1 : Int) (a0_2 : Int) (a0_3 : ByteArray) (a0_4 : Int) (a0_5 : Bool) (a0_6 : Int) (a1 : Int) : Option (Int) := if a0_5 = true then ((impl_within.f a1 40960 41023).bind fun t494 => (impl_Cart_ramPlace.j0 k a1 (!t494) a0_0 a0_1 a0_2 a0_3 a0_4 a0_5 a0_6)) else (impl_Cart_ramPlace.j0 k a1 true a0_0 a0_1 a0_2 a0_3 a0_4 a0_5 a0_6)
theorem impl_Cart_ramPlace.mono_l : ∀ k, (∀ y0 y1 y2 y3 y4 y5 y6 y7 y8, LeO (impl_Cart_ramPlace.j0 k y0 y1 y2 y3 y4 y5 y6 y7 y8) (impl_Cart_ramPlace.j0 (k + 1) y0 y1 y2 y3 y4 y5 y6 y7 y8))
 | 0 => fun _ _ _ _ _ _ _ _ _ r h => by simp [impl_Cart_ramPlace.j0] at h
 | k + 1 => by
  have ih0 := impl_Cart_ramPlace.mono_l k
  ·intro y0 y1 y2 y3 y4 y5 y6 y7 y8
   unfold impl_Cart_ramPlace.j0
   repeat' first
   | (with_reducible first | exact ih0 _ _ _ _ _ _ _ _ _ | exact LeO.refl _ | exact LeO.none _ | refine LeO.ite ?_ ?_ | refine LeO.bind ?_ (fun _ => ?_))
   | exact ih0 _ _ _ _ _ _ _ _ _
   | exact LeO.none _
   | refine LeO.ite ?_ ?_
   | refine LeO.bind ?_ (fun _ => ?_)
theorem impl_Cart_ramPlace.mono : ∀ a0 a1 a2 a3 a4 a5 a6 a7 k, LeO (impl_Cart_ramPlace.f k a0 a1 a2 a3 a4 a5 a6 a7) (impl_Cart_ramPlace.f (k + 1) a0 a1 a2 a3 a4 a5 a6 a7) := by
 intro a0 a1 a2 a3 a4 a5 a6 a7 k
 have ih0 := impl_Cart_ramPlace.mono_l k
 unfold impl_Cart_ramPlace.f
 repeat' first
   | (with_reducible first | exact ih0 _ _ _ _ _ _ _ _ _ | exact LeO.refl _ | exact LeO.none _ | refine LeO.ite ?_ ?_ | refine LeO.bind ?_ (fun _ => ?_))
   | exact ih0 _ _ _ _ _ _ _ _ _
   | exact LeO.none _
   | refine LeO.ite ?_ ?_
   | refine LeO.bind ?_ (fun _ => ?_)
theorem impl_Cart_ramPlace.calls (k : Nat) (a0_0 : ByteArray) (a0_1 : Int) (a0_2 : Int) (a0_3 : ByteArray) (a0_4 : Int) (a0_5 : Bool) (a0_6 : Int) (a1 : Int) (r : Int) (w : World) (h : impl_Cart_ramPlace.f k a0_0 a0_1 a0_2 a0_3 a0_4 a0_5 a0_6 a1 = some r) :
  Calls Try.prog 75 #[.agg #[.string a0_0, .int .i64 a0_1, .int .i64 a0_2, .string a0_3, .int .i64 a0_4, .bool a0_5, .int .i64 a0_6], .int .i64 a1] w fun e w' => e = .returned (.int .i64 r) ∧ Below w.heap.size w w' := by
 have hu32 := Try.underlying32
 have HB := Aside0.mk (Below.refl w.heap.size w)
 have H : (if a0_5 = true then ((impl_within.f a1 40960 41023).bind fun t494 => (impl_Cart_ramPlace.j0 k a1 (!t494) a0_0 a0_1 a0_2 a0_3 a0_4 a0_5 a0_6)) else (impl_Cart_ramPlace.j0 k a1 true a0_0 a0_1 a0_2 a0_3 a0_4 a0_5 a0_6)) = some r := h
 clear h
 have HC3 := Aside0.mk H
 clear H
 go_enter Try.func75, Try.ntmps75
 go_upto_region 1 with (first | ((with_reducible refine gate_dst (N := 2) rfl ?_); refine box_event ?hg (N := 2) ?hd (cs := #[.string a0_0, .int .i64 a0_1, .int .i64 a0_2, .string a0_3, .int .i64 a0_4, .bool a0_5, .int .i64 a0_6]) (t := 32) ?hr ?_; (case hd => rfl); (case hg => rfl); (case hr => exact q138_); intro gb493 hg w4 hbox hb; have n0_ := Aside0.mk (below_step q75_ hb); have n1_ := Aside0.mk (hbox); have n2_ := Aside0.mk ((q52_ : w.heap.size ≤ gb493)); have n3_ := Aside0.mk ((q52_ : w.heap.size ≤ gb493)); clear HB; have HB := n0_; have BK493 := n1_; have GW493 := n2_; have GE493 := n3_; clear n0_ n1_ n2_ n3_; clear hb hbox hg))
 (try simp only [Act.put, List.setIfInBounds_toArray, List.set_cons_zero, List.set_cons_succ])
 go_cut [13] (fun v13 wc => ∃ (kq : Nat) (x13_2 : Bool), v13 = .bool x13_2 ∧ Aside0 (impl_Cart_ramPlace.j0 kq a1 x13_2 a0_0 a0_1 a0_2 a0_3 a0_4 a0_5 a0_6 = some r) ∧ Aside0 (kq ≤ k) ∧ Aside0 (wc.heap[gb493]? = some (.cells #[.string a0_0, .int .i64 a0_1, .int .i64 a0_2, .string a0_3, .int .i64 a0_4, .bool a0_5, .int .i64 a0_6] 32 (0, 0))) ∧ Aside0 (Below w.heap.size w wc))
 case first =>
  have H := HC3.out
  clear HC3
  by_cases c5 : a0_5 = true
  ·subst c5
   replace H : ((impl_within.f a1 40960 41023).bind fun t494 => (impl_Cart_ramPlace.j0 k a1 (!t494) a0_0 a0_1 a0_2 a0_3 a0_4 true a0_6)) = some r := by rw [if_pos rfl] at H; exact H
   replace H := Option.bind_eq_some_iff.mp H
   obtain ⟨t494, A60, H⟩ := H
   have A6 := Aside0.mk A60
   clear A60
   have H' := Aside0.mk H
   clear H
   have hcz7_0 : w4.cell? ⟨gb493, 0, none⟩ = some (.string a0_0) := bz_ BK493 0
   have hcz7_1 : w4.cell? ⟨gb493, 1, none⟩ = some (.int .i64 a0_1) := bz_ BK493 1
   have hcz7_2 : w4.cell? ⟨gb493, 2, none⟩ = some (.int .i64 a0_2) := bz_ BK493 2
   have hcz7_3 : w4.cell? ⟨gb493, 3, none⟩ = some (.string a0_3) := bz_ BK493 3
   have hcz7_4 : w4.cell? ⟨gb493, 4, none⟩ = some (.int .i64 a0_4) := bz_ BK493 4
   have hcz7_5 : w4.cell? ⟨gb493, 5, none⟩ = some (.bool true) := bz_ BK493 5
   have hcz7_6 : w4.cell? ⟨gb493, 6, none⟩ = some (.int .i64 a0_6) := bz_ BK493 6
   have hfz7_0 := blk_frozen BK493.out 0
   have hfz7_1 := blk_frozen BK493.out 1
   have hfz7_2 := blk_frozen BK493.out 2
   have hfz7_3 := blk_frozen BK493.out 3
   have hfz7_4 := blk_frozen BK493.out 4
   have hfz7_5 := blk_frozen BK493.out 5
   have hfz7_6 := blk_frozen BK493.out 6
   go_wp2_with (first | (go_at_call 38; (with_reducible refine (impl_within.calls a1 40960 41023 t494 _ A6.out).mono ?_); rintro e w' ⟨rfl, ⟨nd, rfl⟩⟩))
   go_meet
   case rel => exact ⟨_, (!t494), q101_, H', ⟨q121_⟩, ⟨q94_⟩, ⟨q62_⟩⟩
  ·replace c5 := Bool.eq_false_iff.mpr c5
   subst c5
   replace H : (impl_Cart_ramPlace.j0 k a1 true a0_0 a0_1 a0_2 a0_3 a0_4 false a0_6) = some r := by rw [if_neg (show ¬ (false = true) by decide)] at H; exact H
   have H' := Aside0.mk H
   clear H
   have hcz8_0 : w4.cell? ⟨gb493, 0, none⟩ = some (.string a0_0) := bz_ BK493 0
   have hcz8_1 : w4.cell? ⟨gb493, 1, none⟩ = some (.int .i64 a0_1) := bz_ BK493 1
   have hcz8_2 : w4.cell? ⟨gb493, 2, none⟩ = some (.int .i64 a0_2) := bz_ BK493 2
   have hcz8_3 : w4.cell? ⟨gb493, 3, none⟩ = some (.string a0_3) := bz_ BK493 3
   have hcz8_4 : w4.cell? ⟨gb493, 4, none⟩ = some (.int .i64 a0_4) := bz_ BK493 4
   have hcz8_5 : w4.cell? ⟨gb493, 5, none⟩ = some (.bool false) := bz_ BK493 5
   have hcz8_6 : w4.cell? ⟨gb493, 6, none⟩ = some (.int .i64 a0_6) := bz_ BK493 6
   have hfz8_0 := blk_frozen BK493.out 0
   have hfz8_1 := blk_frozen BK493.out 1
   have hfz8_2 := blk_frozen BK493.out 2
   have hfz8_3 := blk_frozen BK493.out 3
   have hfz8_4 := blk_frozen BK493.out 4
   have hfz8_5 := blk_frozen BK493.out 5
   have hfz8_6 := blk_frozen BK493.out 6
   go_wp2
   go_meet
   case rel => exact ⟨_, (true), q101_, H', ⟨q121_⟩, ⟨q94_⟩, ⟨q62_⟩⟩
 case rest =>
  clear HC3
  try clear p2
  try clear c5
  try clear p6
  try clear c7
  try clear hcz7_0 hcz7_1 hcz7_2 hcz7_3 hcz7_4 hcz7_5 hcz7_6
  try clear hcz8_0 hcz8_1 hcz8_2 hcz8_3 hcz8_4 hcz8_5 hcz8_6
  try clear hfz7_0 hfz7_1 hfz7_2 hfz7_3 hfz7_4 hfz7_5 hfz7_6
  try clear hfz8_0 hfz8_1 hfz8_2 hfz8_3 hfz8_4 hfz8_5 hfz8_6
  obtain ⟨kq, x13_2, rfl, HA, HJ2, BK493, HB⟩ := hcut
  cases kq with
  | zero => exact absurd HA.out (by simp [impl_Cart_ramPlace.j0])
  | succ kj2 =>
   have H := HA.out
   clear HA
   simp only [impl_Cart_ramPlace.j0] at H
   by_cases c9 : x13_2 = true
   ·subst c9
    replace H : (some (-1)) = some r := by rw [if_pos rfl] at H; exact H
    obtain rfl := Option.some.inj H
    go_wp2
    go_ret
    exact ⟨q76_, q62_⟩
   ·replace c9 := Bool.eq_false_iff.mpr c9
    subst c9
    replace H : (if a0_1 = 1 then (if a0_6 = 0 then (some (wrap64 ((wrap64 ((0 * 64) + a1)) - 40960))) else (some (wrap64 ((wrap64 ((wrap64 (a0_4 * 64)) + a1)) - 40960)))) else (some (wrap64 ((wrap64 ((wrap64 (a0_4 * 64)) + a1)) - 40960)))) = some r := by rw [if_neg (show ¬ (false = true) by decide)] at H; exact H
    by_cases c10 : a0_1 = 1
    ·rw [if_pos c10] at H
     have c10b0 : (a0_1 == 1) = true := beq_iff_eq.mpr c10
     have c10b1 : (a0_1 != 1) = false := bne_eq_false_iff_eq.mpr c10
     clear c10
     by_cases c11 : a0_6 = 0
     ·rw [if_pos c11] at H
      have c11b0 : (a0_6 == 0) = true := beq_iff_eq.mpr c11
      have c11b1 : (a0_6 != 0) = false := bne_eq_false_iff_eq.mpr c11
      clear c11
      obtain rfl := Option.some.inj H
      have hcz12_0 : wc.cell? ⟨gb493, 0, none⟩ = some (.string a0_0) := bz_ BK493 0
      have hcz12_1 : wc.cell? ⟨gb493, 1, none⟩ = some (.int .i64 a0_1) := bz_ BK493 1
      have hcz12_2 : wc.cell? ⟨gb493, 2, none⟩ = some (.int .i64 a0_2) := bz_ BK493 2
      have hcz12_3 : wc.cell? ⟨gb493, 3, none⟩ = some (.string a0_3) := bz_ BK493 3
      have hcz12_4 : wc.cell? ⟨gb493, 4, none⟩ = some (.int .i64 a0_4) := bz_ BK493 4
      have hcz12_5 : wc.cell? ⟨gb493, 5, none⟩ = some (.bool a0_5) := bz_ BK493 5
      have hcz12_6 : wc.cell? ⟨gb493, 6, none⟩ = some (.int .i64 a0_6) := bz_ BK493 6
      have hfz12_0 := blk_frozen BK493.out 0
      have hfz12_1 := blk_frozen BK493.out 1
      have hfz12_2 := blk_frozen BK493.out 2
      have hfz12_3 := blk_frozen BK493.out 3
      have hfz12_4 := blk_frozen BK493.out 4
      have hfz12_5 := blk_frozen BK493.out 5
      have hfz12_6 := blk_frozen BK493.out 6
      go_wp2
      go_ret
      exact ⟨q76_, q62_⟩
     ·rw [if_neg c11] at H
      have c11b0 : (a0_6 == 0) = false := beq_eq_false_iff_ne.mpr c11
      have c11b1 : (a0_6 != 0) = true := bne_iff_ne.mpr c11
      obtain rfl := Option.some.inj H
      have hcz13_0 : wc.cell? ⟨gb493, 0, none⟩ = some (.string a0_0) := bz_ BK493 0
      have hcz13_1 : wc.cell? ⟨gb493, 1, none⟩ = some (.int .i64 a0_1) := bz_ BK493 1
      have hcz13_2 : wc.cell? ⟨gb493, 2, none⟩ = some (.int .i64 a0_2) := bz_ BK493 2
      have hcz13_3 : wc.cell? ⟨gb493, 3, none⟩ = some (.string a0_3) := bz_ BK493 3
      have hcz13_4 : wc.cell? ⟨gb493, 4, none⟩ = some (.int .i64 a0_4) := bz_ BK493 4
      have hcz13_5 : wc.cell? ⟨gb493, 5, none⟩ = some (.bool a0_5) := bz_ BK493 5
      have hcz13_6 : wc.cell? ⟨gb493, 6, none⟩ = some (.int .i64 a0_6) := bz_ BK493 6
      have hfz13_0 := blk_frozen BK493.out 0
      have hfz13_1 := blk_frozen BK493.out 1
      have hfz13_2 := blk_frozen BK493.out 2
      have hfz13_3 := blk_frozen BK493.out 3
      have hfz13_4 := blk_frozen BK493.out 4
      have hfz13_5 := blk_frozen BK493.out 5
      have hfz13_6 := blk_frozen BK493.out 6
      go_wp2
      go_ret
      exact ⟨q76_, q62_⟩
    ·rw [if_neg c10] at H
     have c10b0 : (a0_1 == 1) = false := beq_eq_false_iff_ne.mpr c10
     have c10b1 : (a0_1 != 1) = true := bne_iff_ne.mpr c10
     obtain rfl := Option.some.inj H
     have hcz14_0 : wc.cell? ⟨gb493, 0, none⟩ = some (.string a0_0) := bz_ BK493 0
     have hcz14_1 : wc.cell? ⟨gb493, 1, none⟩ = some (.int .i64 a0_1) := bz_ BK493 1
     have hcz14_2 : wc.cell? ⟨gb493, 2, none⟩ = some (.int .i64 a0_2) := bz_ BK493 2
     have hcz14_3 : wc.cell? ⟨gb493, 3, none⟩ = some (.string a0_3) := bz_ BK493 3
     have hcz14_4 : wc.cell? ⟨gb493, 4, none⟩ = some (.int .i64 a0_4) := bz_ BK493 4
     have hcz14_5 : wc.cell? ⟨gb493, 5, none⟩ = some (.bool a0_5) := bz_ BK493 5
     have hcz14_6 : wc.cell? ⟨gb493, 6, none⟩ = some (.int .i64 a0_6) := bz_ BK493 6
     have hfz14_0 := blk_frozen BK493.out 0
     have hfz14_1 := blk_frozen BK493.out 1
     have hfz14_2 := blk_frozen BK493.out 2
     have hfz14_3 := blk_frozen BK493.out 3
     have hfz14_4 := blk_frozen BK493.out 4
     have hfz14_5 := blk_frozen BK493.out 5
     have hfz14_6 := blk_frozen BK493.out 6
     go_wp2
     go_ret
     exact ⟨q76_, q62_⟩
def impl_Cart_read.f (k : Nat) (a0_0 : ByteArray) (a0_1 : Int) (a0_2 : Int) (a0_3 : ByteArray) (a0_4 : Int) (a0_5 : Bool) (a0_6 : Int) (a1 : Int) : Option (Int) := (impl_Cart_ramPlace.f k a0_0 a0_1 a0_2 a0_3 a0_4 a0_5 a0_6 a1).bind fun t496 => (if a1 < 256 then (if 0 ≤ a1 then (if a1 < (a0_0.size : Int) then (some (wrap64 (bt a0_0 a1))) else (none)) else (none)) else (if a1 < 512 then ((impl_Cart_mapped.f a0_0 a0_1 a0_2 a0_3 a0_4 a0_5 a0_6).bind fun t497 => (if 0 ≤ (wrap64 ((wrap64 ((wrap64 (t497 * 256)) + a1)) - 256)) then (if (wrap64 ((wrap64 ((wrap64 (t497 * 256)) + a1)) - 256)) < (a0_0.size : Int) then (some (wrap64 (bt a0_0 (wrap64 ((wrap64 ((wrap64 (t497 * 256)) + a1)) - 256))))) else (none)) else (none))) else (if t496 ≥ 0 then (if 0 ≤ t496 then (if t496 < (a0_3.size : Int) then (some (wrap64 (bt a0_3 t496))) else (none)) else (none)) else (some 255))))
theorem impl_Cart_read.mono : ∀ a0 a1 a2 a3 a4 a5 a6 a7 k, LeO (impl_Cart_read.f k a0 a1 a2 a3 a4 a5 a6 a7) (impl_Cart_read.f (k + 1) a0 a1 a2 a3 a4 a5 a6 a7) := by
 intro a0 a1 a2 a3 a4 a5 a6 a7 k
 unfold impl_Cart_read.f
 repeat' first
   | (with_reducible first | exact impl_Cart_ramPlace.mono _ _ _ _ _ _ _ _ _ | exact LeO.refl _ | exact LeO.none _ | refine LeO.ite ?_ ?_ | refine LeO.bind ?_ (fun _ => ?_))
   | exact impl_Cart_ramPlace.mono _ _ _ _ _ _ _ _ _
   | exact LeO.none _
   | refine LeO.ite ?_ ?_
   | refine LeO.bind ?_ (fun _ => ?_)
def impl_Cart_read.T5 : Bool × List (List Nat × List Nat) := (true, [([], []), ([0], [0]), ([], []), ([2], [2]), ([3], [3]), ([], []), ([4, 5], [4, 5]), ([6], [6]), ([1, 7], [1, 7]), ([8], [8]), ([9, 3, 0, 1, 2, 3, 4, 5, 6, 7, 8, 9], [9])])
def impl_Cart_read.B5 : List Nat := [0, 1, 0, 4, 12, 0, 60, 124, 255, 511, 1023]
theorem impl_Cart_read.tab5 : rtab .any (opsOf Try.f66 5) = impl_Cart_read.T5 := by kernel_rfl
theorem impl_Cart_read.bits5 : waitsOk impl_Cart_read.T5.2 impl_Cart_read.B5 = true := by kernel_rfl
theorem impl_Cart_read.calls (k : Nat) (a0_0 : ByteArray) (a0_1 : Int) (a0_2 : Int) (a0_3 : ByteArray) (a0_4 : Int) (a0_5 : Bool) (a0_6 : Int) (a1 : Int) (r : Int) (w : World) (h : impl_Cart_read.f k a0_0 a0_1 a0_2 a0_3 a0_4 a0_5 a0_6 a1 = some r) :
  Calls Try.prog 66 #[.agg #[.string a0_0, .int .i64 a0_1, .int .i64 a0_2, .string a0_3, .int .i64 a0_4, .bool a0_5, .int .i64 a0_6], .int .i64 a1] w fun e w' => e = .returned (.int .i64 r) ∧ Below w.heap.size w w' := by
 have hu32 := Try.underlying32
 have HB := Aside0.mk (Below.refl w.heap.size w)
 have H : ((impl_Cart_ramPlace.f k a0_0 a0_1 a0_2 a0_3 a0_4 a0_5 a0_6 a1).bind fun t496 => (if a1 < 256 then (if 0 ≤ a1 then (if a1 < (a0_0.size : Int) then (some (wrap64 (bt a0_0 a1))) else (none)) else (none)) else (if a1 < 512 then ((impl_Cart_mapped.f a0_0 a0_1 a0_2 a0_3 a0_4 a0_5 a0_6).bind fun t497 => (if 0 ≤ (wrap64 ((wrap64 ((wrap64 (t497 * 256)) + a1)) - 256)) then (if (wrap64 ((wrap64 ((wrap64 (t497 * 256)) + a1)) - 256)) < (a0_0.size : Int) then (some (wrap64 (bt a0_0 (wrap64 ((wrap64 ((wrap64 (t497 * 256)) + a1)) - 256))))) else (none)) else (none))) else (if t496 ≥ 0 then (if 0 ≤ t496 then (if t496 < (a0_3.size : Int) then (some (wrap64 (bt a0_3 t496))) else (none)) else (none)) else (some 255))))) = some r := h
 clear h
 replace H := Option.bind_eq_some_iff.mp H
 obtain ⟨t496, A30, H⟩ := H
 have A3 := Aside0.mk A30
 clear A30
 by_cases c4 : a1 < 256
 ·rw [if_pos c4] at H
  have c4b0 : decide (a1 < 256) = true := decide_eq_true c4
  clear c4
  by_cases c5 : 0 ≤ a1
  ·rw [if_pos c5] at H
   have c5b0 : decide (0 ≤ a1) = true := decide_eq_true c5
   clear c5
   by_cases c6 : a1 < (a0_0.size : Int)
   ·rw [if_pos c6] at H
    have c6b0 : decide (a1 < (a0_0.size : Int)) = true := decide_eq_true c6
    clear c6
    obtain rfl := Option.some.inj H
    go_enter Try.func66, Try.ntmps66
    go_wp2_with (first | ((with_reducible refine gate_dst (N := 2) rfl ?_); refine box_event ?hg (N := 2) ?hd (cs := #[.string a0_0, .int .i64 a0_1, .int .i64 a0_2, .string a0_3, .int .i64 a0_4, .bool a0_5, .int .i64 a0_6]) (t := 32) ?hr ?_; (case hd => rfl); (case hg => rfl); (case hr => exact q138_); intro gb495 hg w8 hbox hb; have n0_ := Aside0.mk (below_step q75_ hb); have n1_ := Aside0.mk (hbox); have n2_ := Aside0.mk ((q52_ : w.heap.size ≤ gb495)); have n3_ := Aside0.mk ((q52_ : w.heap.size ≤ gb495)); clear HB; have HB := n0_; have BK495 := n1_; have GW495 := n2_; have GE495 := n3_; clear n0_ n1_ n2_ n3_; clear hb hbox hg; have hcz9_0 : w8.cell? ⟨gb495, 0, none⟩ = some (.string a0_0) := (blk_cell BK495.out 0).trans rfl; have hcz9_1 : w8.cell? ⟨gb495, 1, none⟩ = some (.int .i64 a0_1) := (blk_cell BK495.out 1).trans rfl; have hcz9_2 : w8.cell? ⟨gb495, 2, none⟩ = some (.int .i64 a0_2) := (blk_cell BK495.out 2).trans rfl; have hcz9_3 : w8.cell? ⟨gb495, 3, none⟩ = some (.string a0_3) := (blk_cell BK495.out 3).trans rfl; have hcz9_4 : w8.cell? ⟨gb495, 4, none⟩ = some (.int .i64 a0_4) := (blk_cell BK495.out 4).trans rfl; have hcz9_5 : w8.cell? ⟨gb495, 5, none⟩ = some (.bool a0_5) := (blk_cell BK495.out 5).trans rfl; have hcz9_6 : w8.cell? ⟨gb495, 6, none⟩ = some (.int .i64 a0_6) := (blk_cell BK495.out 6).trans rfl; have hfz9_0 := blk_frozen BK495.out 0; have hfz9_1 := blk_frozen BK495.out 1; have hfz9_2 := blk_frozen BK495.out 2; have hfz9_3 := blk_frozen BK495.out 3; have hfz9_4 := blk_frozen BK495.out 4; have hfz9_5 := blk_frozen BK495.out 5; have hfz9_6 := blk_frozen BK495.out 6) | ((with_reducible refine gate_callee (f := 75) rfl ?_); refine goesL_ (some 8) rfl rfl Try.func75 (by kernel_rfl) rfl #[.agg #[.string a0_0, .int .i64 a0_1, .int .i64 a0_2, .string a0_3, .int .i64 a0_4, .bool a0_5, .int .i64 a0_6], .int .i64 a1] rfl q74_ ?_; (with_reducible refine (impl_Cart_ramPlace.calls k a0_0 a0_1 a0_2 a0_3 a0_4 a0_5 a0_6 a1 t496 _ A3.out).mono ?_); rintro e w10 ⟨rfl, hb⟩; refine ⟨_, rfl, ?_⟩; have n0_ := Aside0.mk (blk_below (g := gb495) (o := .cells #[.string a0_0, .int .i64 a0_1, .int .i64 a0_2, .string a0_3, .int .i64 a0_4, .bool a0_5, .int .i64 a0_6] 32 (0, 0)) q95_ hb); have n1_ := Aside0.mk (below_step q63_ hb); clear BK495; clear HB; have BK495 := n0_; have HB := n1_; clear n0_ n1_; (try clear hb); have hcz11_0 : w10.cell? ⟨gb495, 0, none⟩ = some (.string a0_0) := (blk_cell BK495.out 0).trans rfl; have hcz11_1 : w10.cell? ⟨gb495, 1, none⟩ = some (.int .i64 a0_1) := (blk_cell BK495.out 1).trans rfl; have hcz11_2 : w10.cell? ⟨gb495, 2, none⟩ = some (.int .i64 a0_2) := (blk_cell BK495.out 2).trans rfl; have hcz11_3 : w10.cell? ⟨gb495, 3, none⟩ = some (.string a0_3) := (blk_cell BK495.out 3).trans rfl; have hcz11_4 : w10.cell? ⟨gb495, 4, none⟩ = some (.int .i64 a0_4) := (blk_cell BK495.out 4).trans rfl; have hcz11_5 : w10.cell? ⟨gb495, 5, none⟩ = some (.bool a0_5) := (blk_cell BK495.out 5).trans rfl; have hcz11_6 : w10.cell? ⟨gb495, 6, none⟩ = some (.int .i64 a0_6) := (blk_cell BK495.out 6).trans rfl; have hfz11_0 := blk_frozen BK495.out 0; have hfz11_1 := blk_frozen BK495.out 1; have hfz11_2 := blk_frozen BK495.out 2; have hfz11_3 := blk_frozen BK495.out 3; have hfz11_4 := blk_frozen BK495.out 4; have hfz11_5 := blk_frozen BK495.out 5; have hfz11_6 := blk_frozen BK495.out 6; have p7 : 0 ≤ (a1 : Int) := of_decide_eq_true q109_; have q7 : a1 < (a0_0.size : Int) := of_decide_eq_true q109_; have hx7 := bt_at a0_0 a1; replace p7 := eq_true p7; replace q7 := eq_true q7))
    go_ret
    exact ⟨q76_, q63_⟩
   ·rw [if_neg c6] at H
    exact absurd H (by simp)
  ·rw [if_neg c5] at H
   exact absurd H (by simp)
 ·rw [if_neg c4] at H
  have c4b0 : decide (a1 < 256) = false := decide_eq_false c4
  clear c4
  by_cases c12 : a1 < 512
  ·rw [if_pos c12] at H
   have c12b0 : decide (a1 < 512) = true := decide_eq_true c12
   clear c12
   replace H := Option.bind_eq_some_iff.mp H
   obtain ⟨t497, A130, H⟩ := H
   have A13 := Aside0.mk A130
   clear A130
   obtain ⟨ji14, hji14⟩ : ∃ j_ : Int, (wrap64 ((wrap64 ((wrap64 (t497 * 256)) + a1)) - 256)) = j_ := ⟨_, rfl⟩
   replace H : (if 0 ≤ (ji14) then (if (ji14) < (a0_0.size : Int) then (some (wrap64 (bt a0_0 (ji14)))) else (none)) else (none)) = some r := by first | (rw [hji14] at H; exact H) | (simp only [hji14] at H ⊢; exact H)
   (try rw [hji14] at A3)
   (try rw [hji14] at A13)
   have hji14w : (IntKind.i64.wrap ((wrap64 ((wrap64 (t497 * 256)) + a1)) - 256)) = ji14 := (i64_w _).trans hji14
   by_cases c15 : 0 ≤ (ji14)
   ·rw [if_pos c15] at H
    have c15b0 : decide (0 ≤ (ji14)) = true := decide_eq_true c15
    clear c15
    by_cases c16 : (ji14) < (a0_0.size : Int)
    ·rw [if_pos c16] at H
     have c16b0 : decide ((ji14) < (a0_0.size : Int)) = true := decide_eq_true c16
     clear c16
     obtain rfl := Option.some.inj H
     go_enter Try.func66, Try.ntmps66
     try go_wp2_with (first | ((with_reducible refine gate_dst (N := 2) rfl ?_); refine box_event ?hg (N := 2) ?hd (cs := #[.string a0_0, .int .i64 a0_1, .int .i64 a0_2, .string a0_3, .int .i64 a0_4, .bool a0_5, .int .i64 a0_6]) (t := 32) ?hr ?_; (case hd => rfl); (case hg => rfl); (case hr => exact q138_); intro gb495 hg w18 hbox hb; have n0_ := Aside0.mk (below_step q75_ hb); have n1_ := Aside0.mk (hbox); have n2_ := Aside0.mk ((q52_ : w.heap.size ≤ gb495)); have n3_ := Aside0.mk ((q52_ : w.heap.size ≤ gb495)); clear HB; have HB := n0_; have BK495 := n1_; have GW495 := n2_; have GE495 := n3_; clear n0_ n1_ n2_ n3_; clear hb hbox hg; have hcz19_0 : w18.cell? ⟨gb495, 0, none⟩ = some (.string a0_0) := (blk_cell BK495.out 0).trans rfl; have hcz19_1 : w18.cell? ⟨gb495, 1, none⟩ = some (.int .i64 a0_1) := (blk_cell BK495.out 1).trans rfl; have hcz19_2 : w18.cell? ⟨gb495, 2, none⟩ = some (.int .i64 a0_2) := (blk_cell BK495.out 2).trans rfl; have hcz19_3 : w18.cell? ⟨gb495, 3, none⟩ = some (.string a0_3) := (blk_cell BK495.out 3).trans rfl; have hcz19_4 : w18.cell? ⟨gb495, 4, none⟩ = some (.int .i64 a0_4) := (blk_cell BK495.out 4).trans rfl; have hcz19_5 : w18.cell? ⟨gb495, 5, none⟩ = some (.bool a0_5) := (blk_cell BK495.out 5).trans rfl; have hcz19_6 : w18.cell? ⟨gb495, 6, none⟩ = some (.int .i64 a0_6) := (blk_cell BK495.out 6).trans rfl; have hfz19_0 := blk_frozen BK495.out 0; have hfz19_1 := blk_frozen BK495.out 1; have hfz19_2 := blk_frozen BK495.out 2; have hfz19_3 := blk_frozen BK495.out 3; have hfz19_4 := blk_frozen BK495.out 4; have hfz19_5 := blk_frozen BK495.out 5; have hfz19_6 := blk_frozen BK495.out 6) | ((with_reducible refine gate_callee (f := 75) rfl ?_); refine goesL_ (some 8) rfl rfl Try.func75 (by kernel_rfl) rfl #[.agg #[.string a0_0, .int .i64 a0_1, .int .i64 a0_2, .string a0_3, .int .i64 a0_4, .bool a0_5, .int .i64 a0_6], .int .i64 a1] rfl q74_ ?_; (with_reducible refine (impl_Cart_ramPlace.calls k a0_0 a0_1 a0_2 a0_3 a0_4 a0_5 a0_6 a1 t496 _ A3.out).mono ?_); rintro e w20 ⟨rfl, hb⟩; refine ⟨_, rfl, ?_⟩; have n0_ := Aside0.mk (blk_below (g := gb495) (o := .cells #[.string a0_0, .int .i64 a0_1, .int .i64 a0_2, .string a0_3, .int .i64 a0_4, .bool a0_5, .int .i64 a0_6] 32 (0, 0)) q95_ hb); have n1_ := Aside0.mk (below_step q63_ hb); clear BK495; clear HB; have BK495 := n0_; have HB := n1_; clear n0_ n1_; (try clear hb)))
     have n0_ := Aside0.mk (blk_drew BK495.out)
     have n1_ := Aside0.mk (below_drew1 HB.out)
     clear BK495
     clear HB
     have BK495 := n0_
     have HB := n1_
     clear n0_ n1_
     refine start_ (n := 11) (S := fun w' => w'.cell? ⟨gb495, 0, none⟩ = some (.string a0_0) ∧ w'.cell? ⟨gb495, 1, none⟩ = some (.int .i64 a0_1) ∧ w'.cell? ⟨gb495, 2, none⟩ = some (.int .i64 a0_2) ∧ w'.cell? ⟨gb495, 3, none⟩ = some (.string a0_3) ∧ w'.cell? ⟨gb495, 4, none⟩ = some (.int .i64 a0_4) ∧ w'.cell? ⟨gb495, 5, none⟩ = some (.bool a0_5) ∧ w'.cell? ⟨gb495, 6, none⟩ = some (.int .i64 a0_6)) (ds := []) #[false, false, false, false, false, false, false, false, false, false, false] (by kernel_rfl) rfl rfl ⟨(blk_cell BK495.out 0).trans rfl, (blk_cell BK495.out 1).trans rfl, (blk_cell BK495.out 2).trans rfl, (blk_cell BK495.out 3).trans rfl, (blk_cell BK495.out 4).trans rfl, (blk_cell BK495.out 5).trans rfl, (blk_cell BK495.out 6).trans rfl⟩ (fun hHeld => ?_); refine with_tabW impl_Cart_read.tab5 impl_Cart_read.bits5 (fun HT_ HW_ => ?_)
     generalize w20.drew = w21 at BK495 HB hHeld ⊢
     refine pure_ (i := 0) (N := some 20) (v := ?_) (a' := ?_) #[true, false, false, false, false, false, false, false, false, false, false] rfl rfl (any_of HT_.out (by kernel_rfl)) (fun _ _ _ h => h) (Or.inl ⟨by rfl, ?_⟩) ?_ ?_
     rotate_left
     ·intro w'
      go_simp
      with_reducible rfl
     rotate_left
     ·simp only [Act.put, List.setIfInBounds_toArray, List.set_cons_zero, List.set_cons_succ, i64_w, i32_w]
      rfl
     refine pure_ (i := 5) (N := some 25) (v := ?_) (a' := ?_) #[true, false, false, false, false, true, false, false, false, false, false] rfl rfl (any_of HT_.out (by kernel_rfl)) (fun _ _ _ h => h) (Or.inl ⟨by rfl, ?_⟩) ?_ ?_
     rotate_left
     ·intro w'
      go_simp
      with_reducible rfl
     rotate_left
     ·simp only [Act.put, List.setIfInBounds_toArray, List.set_cons_zero, List.set_cons_succ, i64_w, i32_w]
      rfl
     refine take_ (i := 1) (N := some 21) (v := ?_) (a' := ?_) #[true, true, false, false, false, true, false, false, false, false, false] rfl rfl (take_ofW HT_.out HW_.out (by kernel_rfl)) (fun _ _ _ h => h) (Or.inl ⟨by rfl, ?_⟩) hHeld ?_ ?_
     rotate_left
     ·rintro w' ⟨s0, s1, s2, s3, s4, s5, s6⟩
      go_simp
      with_reducible rfl
     rotate_left
     ·simp only [Act.put, List.setIfInBounds_toArray, List.set_cons_zero, List.set_cons_succ, i64_w, i32_w]
      rfl
     refine take_ (i := 2) (N := some 22) (v := ?_) (a' := ?_) #[true, true, true, false, false, true, false, false, false, false, false] rfl rfl (take_ofW HT_.out HW_.out (by kernel_rfl)) (fun _ _ _ h => h) (Or.inl ⟨by rfl, ?_⟩) hHeld ?_ ?_
     rotate_left
     ·rintro w' ⟨s0, s1, s2, s3, s4, s5, s6⟩
      go_simp
      with_reducible rfl
     rotate_left
     ·simp only [Act.put, List.setIfInBounds_toArray, List.set_cons_zero, List.set_cons_succ, i64_w, i32_w]
      rfl
     refine one_ (i := 3) (N := some 23) #[true, true, true, true, false, true, false, false, false, false, false] rfl rfl (one_of HT_.out (by kernel_rfl)) (by decide) (fun K hK => ?_)
     refine goes_ Try.func65 (by kernel_rfl) rfl #[.agg #[.string a0_0, .int .i64 a0_1, .int .i64 a0_2, .string a0_3, .int .i64 a0_4, .bool a0_5, .int .i64 a0_6]] (by rfl) rfl rfl q74_ ?_
     with_reducible refine (impl_Cart_mapped.calls a0_0 a0_1 a0_2 a0_3 a0_4 a0_5 a0_6 t497 _ A13.out).mono ?_
     rintro e w22 ⟨rfl, hb⟩
     refine ⟨_, rfl, ?_⟩
     have n0_ := Aside0.mk (blk_below (g := gb495) (o := .cells #[.string a0_0, .int .i64 a0_1, .int .i64 a0_2, .string a0_3, .int .i64 a0_4, .bool a0_5, .int .i64 a0_6] 32 (0, 0)) q95_ hb)
     have n1_ := Aside0.mk (below_step q63_ hb)
     clear BK495
     clear HB
     have BK495 := n0_
     have HB := n1_
     clear n0_ n1_
     (try clear hb)
     (try clear hb2)
     (try clear hk)
     (try clear hi)
     have p17 : 0 ≤ ((ji14) : Int) := of_decide_eq_true q109_
     have q17 : (ji14) < (a0_0.size : Int) := of_decide_eq_true q109_
     have hx17 := bt_at a0_0 (ji14)
     replace p17 := eq_true p17
     replace q17 := eq_true q17
     refine hK.out _ _ ⟨(blk_cell BK495.out 0).trans rfl, (blk_cell BK495.out 1).trans rfl, (blk_cell BK495.out 2).trans rfl, (blk_cell BK495.out 3).trans rfl, (blk_cell BK495.out 4).trans rfl, (blk_cell BK495.out 5).trans rfl, (blk_cell BK495.out 6).trans rfl⟩ (fun hHeld => ?_)
     clear hK K
     refine norm_ (a' := ?_) ?_ ?_
     rotate_left
     ·show Act.put _ (some 23) _ = _
      simp only [Act.put, List.setIfInBounds_toArray, List.set_cons_zero, List.set_cons_succ, i64_w, i32_w]
      rfl
     refine pure_ (i := 4) (N := some 24) (v := ?_) (a' := ?_) #[true, true, true, true, true, true, false, false, false, false, false] rfl rfl (any_of HT_.out (by kernel_rfl)) (fun _ _ _ h => h) (Or.inl ⟨by rfl, ?_⟩) ?_ ?_
     rotate_left
     ·intro w'
      go_simp
      with_reducible rfl
     rotate_left
     ·simp only [Act.put, List.setIfInBounds_toArray, List.set_cons_zero, List.set_cons_succ, i64_w, i32_w]
      rfl
     refine pure_ (i := 6) (N := some 26) (v := ?_) (a' := ?_) #[true, true, true, true, true, true, true, false, false, false, false] rfl rfl (any_of HT_.out (by kernel_rfl)) (fun _ _ _ h => h) (Or.inl ⟨by rfl, ?_⟩) ?_ ?_
     rotate_left
     ·intro w'
      go_simp
      with_reducible rfl
     rotate_left
     ·simp only [Act.put, List.setIfInBounds_toArray, List.set_cons_zero, List.set_cons_succ, i64_w, i32_w]
      rfl
     refine pure_ (i := 7) (N := some 27) (v := ?_) (a' := ?_) #[true, true, true, true, true, true, true, true, false, false, false] rfl rfl (any_of HT_.out (by kernel_rfl)) (fun _ _ _ h => h) (Or.inl ⟨by rfl, ?_⟩) ?_ ?_
     rotate_left
     ·intro w'
      go_simp
      with_reducible rfl
     rotate_left
     ·simp only [Act.put, List.setIfInBounds_toArray, List.set_cons_zero, List.set_cons_succ, i64_w, i32_w]
      rfl
     refine take_ (i := 8) (N := some 28) (v := ?_) (a' := ?_) #[true, true, true, true, true, true, true, true, true, false, false] rfl rfl (take_ofW HT_.out HW_.out (by kernel_rfl)) (fun _ _ _ h => h) (Or.inl ⟨by rfl, ?_⟩) hHeld ?_ ?_
     rotate_left
     ·rintro w' ⟨s0, s1, s2, s3, s4, s5, s6⟩
      go_simp
      with_reducible rfl
     rotate_left
     ·simp only [Act.put, List.setIfInBounds_toArray, List.set_cons_zero, List.set_cons_succ, i64_w, i32_w]
      rfl
     refine pure_ (i := 9) (N := some 29) (v := ?_) (a' := ?_) #[true, true, true, true, true, true, true, true, true, true, false] rfl rfl (any_of HT_.out (by kernel_rfl)) (fun _ _ _ h => h) (Or.inl ⟨by rfl, ?_⟩) ?_ ?_
     rotate_left
     ·intro w'
      go_simp
      with_reducible rfl
     rotate_left
     ·simp only [Act.put, List.setIfInBounds_toArray, List.set_cons_zero, List.set_cons_succ, i64_w, i32_w]
      rfl
     refine pure_ (i := 10) (N := some 4) (v := ?_) (a' := ?_) #[true, true, true, true, true, true, true, true, true, true, true] rfl rfl (any_of HT_.out (by kernel_rfl)) (fun _ _ _ h => h) (Or.inl ⟨by rfl, ?_⟩) ?_ ?_
     rotate_left
     ·intro w'
      go_simp
      with_reducible rfl
     rotate_left
     ·simp only [Act.put, List.setIfInBounds_toArray, List.set_cons_zero, List.set_cons_succ, i64_w, i32_w]
      rfl
     refine done_ (done_of HT_.out (by kernel_rfl)) ?_
     try go_wp2
     go_ret
     exact ⟨q37_, q63_⟩
    ·rw [if_neg c16] at H
     exact absurd H (by simp)
   ·rw [if_neg c15] at H
    exact absurd H (by simp)
  ·rw [if_neg c12] at H
   have c12b0 : decide (a1 < 512) = false := decide_eq_false c12
   clear c12
   by_cases c23 : t496 ≥ 0
   ·rw [if_pos c23] at H
    have c23b0 : decide (0 ≤ t496) = true := decide_eq_true c23
    clear c23
    by_cases c24 : 0 ≤ t496
    ·rw [if_pos c24] at H
     have c24b0 : decide (0 ≤ t496) = true := decide_eq_true c24
     clear c24
     by_cases c25 : t496 < (a0_3.size : Int)
     ·rw [if_pos c25] at H
      have c25b0 : decide (t496 < (a0_3.size : Int)) = true := decide_eq_true c25
      clear c25
      obtain rfl := Option.some.inj H
      go_enter Try.func66, Try.ntmps66
      go_wp2_with (first | ((with_reducible refine gate_dst (N := 2) rfl ?_); refine box_event ?hg (N := 2) ?hd (cs := #[.string a0_0, .int .i64 a0_1, .int .i64 a0_2, .string a0_3, .int .i64 a0_4, .bool a0_5, .int .i64 a0_6]) (t := 32) ?hr ?_; (case hd => rfl); (case hg => rfl); (case hr => exact q138_); intro gb495 hg w27 hbox hb; have n0_ := Aside0.mk (below_step q75_ hb); have n1_ := Aside0.mk (hbox); have n2_ := Aside0.mk ((q52_ : w.heap.size ≤ gb495)); have n3_ := Aside0.mk ((q52_ : w.heap.size ≤ gb495)); clear HB; have HB := n0_; have BK495 := n1_; have GW495 := n2_; have GE495 := n3_; clear n0_ n1_ n2_ n3_; clear hb hbox hg; have hcz28_0 : w27.cell? ⟨gb495, 0, none⟩ = some (.string a0_0) := (blk_cell BK495.out 0).trans rfl; have hcz28_1 : w27.cell? ⟨gb495, 1, none⟩ = some (.int .i64 a0_1) := (blk_cell BK495.out 1).trans rfl; have hcz28_2 : w27.cell? ⟨gb495, 2, none⟩ = some (.int .i64 a0_2) := (blk_cell BK495.out 2).trans rfl; have hcz28_3 : w27.cell? ⟨gb495, 3, none⟩ = some (.string a0_3) := (blk_cell BK495.out 3).trans rfl; have hcz28_4 : w27.cell? ⟨gb495, 4, none⟩ = some (.int .i64 a0_4) := (blk_cell BK495.out 4).trans rfl; have hcz28_5 : w27.cell? ⟨gb495, 5, none⟩ = some (.bool a0_5) := (blk_cell BK495.out 5).trans rfl; have hcz28_6 : w27.cell? ⟨gb495, 6, none⟩ = some (.int .i64 a0_6) := (blk_cell BK495.out 6).trans rfl; have hfz28_0 := blk_frozen BK495.out 0; have hfz28_1 := blk_frozen BK495.out 1; have hfz28_2 := blk_frozen BK495.out 2; have hfz28_3 := blk_frozen BK495.out 3; have hfz28_4 := blk_frozen BK495.out 4; have hfz28_5 := blk_frozen BK495.out 5; have hfz28_6 := blk_frozen BK495.out 6) | ((with_reducible refine gate_callee (f := 75) rfl ?_); refine goesL_ (some 8) rfl rfl Try.func75 (by kernel_rfl) rfl #[.agg #[.string a0_0, .int .i64 a0_1, .int .i64 a0_2, .string a0_3, .int .i64 a0_4, .bool a0_5, .int .i64 a0_6], .int .i64 a1] rfl q74_ ?_; (with_reducible refine (impl_Cart_ramPlace.calls k a0_0 a0_1 a0_2 a0_3 a0_4 a0_5 a0_6 a1 t496 _ A3.out).mono ?_); rintro e w29 ⟨rfl, hb⟩; refine ⟨_, rfl, ?_⟩; have n0_ := Aside0.mk (blk_below (g := gb495) (o := .cells #[.string a0_0, .int .i64 a0_1, .int .i64 a0_2, .string a0_3, .int .i64 a0_4, .bool a0_5, .int .i64 a0_6] 32 (0, 0)) q95_ hb); have n1_ := Aside0.mk (below_step q63_ hb); clear BK495; clear HB; have BK495 := n0_; have HB := n1_; clear n0_ n1_; (try clear hb); have hcz30_0 : w29.cell? ⟨gb495, 0, none⟩ = some (.string a0_0) := (blk_cell BK495.out 0).trans rfl; have hcz30_1 : w29.cell? ⟨gb495, 1, none⟩ = some (.int .i64 a0_1) := (blk_cell BK495.out 1).trans rfl; have hcz30_2 : w29.cell? ⟨gb495, 2, none⟩ = some (.int .i64 a0_2) := (blk_cell BK495.out 2).trans rfl; have hcz30_3 : w29.cell? ⟨gb495, 3, none⟩ = some (.string a0_3) := (blk_cell BK495.out 3).trans rfl; have hcz30_4 : w29.cell? ⟨gb495, 4, none⟩ = some (.int .i64 a0_4) := (blk_cell BK495.out 4).trans rfl; have hcz30_5 : w29.cell? ⟨gb495, 5, none⟩ = some (.bool a0_5) := (blk_cell BK495.out 5).trans rfl; have hcz30_6 : w29.cell? ⟨gb495, 6, none⟩ = some (.int .i64 a0_6) := (blk_cell BK495.out 6).trans rfl; have hfz30_0 := blk_frozen BK495.out 0; have hfz30_1 := blk_frozen BK495.out 1; have hfz30_2 := blk_frozen BK495.out 2; have hfz30_3 := blk_frozen BK495.out 3; have hfz30_4 := blk_frozen BK495.out 4; have hfz30_5 := blk_frozen BK495.out 5; have hfz30_6 := blk_frozen BK495.out 6; have p26 : 0 ≤ (t496 : Int) := of_decide_eq_true q109_; have q26 : t496 < (a0_3.size : Int) := of_decide_eq_true q109_; have hx26 := bt_at a0_3 t496; replace p26 := eq_true p26; replace q26 := eq_true q26))
      go_ret
      exact ⟨q76_, q63_⟩
     ·rw [if_neg c25] at H
      exact absurd H (by simp)
    ·rw [if_neg c24] at H
     exact absurd H (by simp)
   ·rw [if_neg c23] at H
    have c23b0 : decide (0 ≤ t496) = false := decide_eq_false c23
    clear c23
    obtain rfl := Option.some.inj H
    go_enter Try.func66, Try.ntmps66
    go_wp2_with (first | ((with_reducible refine gate_dst (N := 2) rfl ?_); refine box_event ?hg (N := 2) ?hd (cs := #[.string a0_0, .int .i64 a0_1, .int .i64 a0_2, .string a0_3, .int .i64 a0_4, .bool a0_5, .int .i64 a0_6]) (t := 32) ?hr ?_; (case hd => rfl); (case hg => rfl); (case hr => exact q138_); intro gb495 hg w31 hbox hb; have n0_ := Aside0.mk (below_step q75_ hb); have n1_ := Aside0.mk (hbox); have n2_ := Aside0.mk ((q52_ : w.heap.size ≤ gb495)); have n3_ := Aside0.mk ((q52_ : w.heap.size ≤ gb495)); clear HB; have HB := n0_; have BK495 := n1_; have GW495 := n2_; have GE495 := n3_; clear n0_ n1_ n2_ n3_; clear hb hbox hg; have hcz32_0 : w31.cell? ⟨gb495, 0, none⟩ = some (.string a0_0) := (blk_cell BK495.out 0).trans rfl; have hcz32_1 : w31.cell? ⟨gb495, 1, none⟩ = some (.int .i64 a0_1) := (blk_cell BK495.out 1).trans rfl; have hcz32_2 : w31.cell? ⟨gb495, 2, none⟩ = some (.int .i64 a0_2) := (blk_cell BK495.out 2).trans rfl; have hcz32_3 : w31.cell? ⟨gb495, 3, none⟩ = some (.string a0_3) := (blk_cell BK495.out 3).trans rfl; have hcz32_4 : w31.cell? ⟨gb495, 4, none⟩ = some (.int .i64 a0_4) := (blk_cell BK495.out 4).trans rfl; have hcz32_5 : w31.cell? ⟨gb495, 5, none⟩ = some (.bool a0_5) := (blk_cell BK495.out 5).trans rfl; have hcz32_6 : w31.cell? ⟨gb495, 6, none⟩ = some (.int .i64 a0_6) := (blk_cell BK495.out 6).trans rfl; have hfz32_0 := blk_frozen BK495.out 0; have hfz32_1 := blk_frozen BK495.out 1; have hfz32_2 := blk_frozen BK495.out 2; have hfz32_3 := blk_frozen BK495.out 3; have hfz32_4 := blk_frozen BK495.out 4; have hfz32_5 := blk_frozen BK495.out 5; have hfz32_6 := blk_frozen BK495.out 6) | ((with_reducible refine gate_callee (f := 75) rfl ?_); refine goesL_ (some 8) rfl rfl Try.func75 (by kernel_rfl) rfl #[.agg #[.string a0_0, .int .i64 a0_1, .int .i64 a0_2, .string a0_3, .int .i64 a0_4, .bool a0_5, .int .i64 a0_6], .int .i64 a1] rfl q74_ ?_; (with_reducible refine (impl_Cart_ramPlace.calls k a0_0 a0_1 a0_2 a0_3 a0_4 a0_5 a0_6 a1 t496 _ A3.out).mono ?_); rintro e w33 ⟨rfl, hb⟩; refine ⟨_, rfl, ?_⟩; have n0_ := Aside0.mk (blk_below (g := gb495) (o := .cells #[.string a0_0, .int .i64 a0_1, .int .i64 a0_2, .string a0_3, .int .i64 a0_4, .bool a0_5, .int .i64 a0_6] 32 (0, 0)) q95_ hb); have n1_ := Aside0.mk (below_step q63_ hb); clear BK495; clear HB; have BK495 := n0_; have HB := n1_; clear n0_ n1_; (try clear hb)))
    go_ret
    exact ⟨q76_, q63_⟩
def impl_CartRead.f (k : Nat) (a0_0 : ByteArray) (a0_1 : Int) (a0_2 : Int) (a0_3 : ByteArray) (a0_4 : Int) (a0_5 : Bool) (a0_6 : Int) (a1 : Int) : Option (Int) := (impl_CartOk.f k a0_0 a0_1 a0_2 a0_3 a0_4 a0_5 a0_6).bind fun t499 => (if t499 = true then ((impl_isWord.f a1).bind fun t500 => (if t500 = true then ((impl_Cart_read.f k a0_0 a0_1 a0_2 a0_3 a0_4 a0_5 a0_6 a1).bind fun t501 => (some t501)) else (some (-1)))) else (some (-1)))
theorem impl_CartRead.mono : ∀ a0 a1 a2 a3 a4 a5 a6 a7 k, LeO (impl_CartRead.f k a0 a1 a2 a3 a4 a5 a6 a7) (impl_CartRead.f (k + 1) a0 a1 a2 a3 a4 a5 a6 a7) := by
 intro a0 a1 a2 a3 a4 a5 a6 a7 k
 unfold impl_CartRead.f
 repeat' first
   | (with_reducible first | exact impl_CartOk.mono _ _ _ _ _ _ _ _ | exact impl_Cart_read.mono _ _ _ _ _ _ _ _ _ | exact LeO.refl _ | exact LeO.none _ | refine LeO.ite ?_ ?_ | refine LeO.bind ?_ (fun _ => ?_))
   | exact impl_CartOk.mono _ _ _ _ _ _ _ _
   | exact impl_Cart_read.mono _ _ _ _ _ _ _ _ _
   | exact LeO.none _
   | refine LeO.ite ?_ ?_
   | refine LeO.bind ?_ (fun _ => ?_)
theorem impl_CartRead.calls (k : Nat) (a0_0 : ByteArray) (a0_1 : Int) (a0_2 : Int) (a0_3 : ByteArray) (a0_4 : Int) (a0_5 : Bool) (a0_6 : Int) (a1 : Int) (r : Int) (w : World) (h : impl_CartRead.f k a0_0 a0_1 a0_2 a0_3 a0_4 a0_5 a0_6 a1 = some r) :
  Calls Try.prog 22 #[.agg #[.string a0_0, .int .i64 a0_1, .int .i64 a0_2, .string a0_3, .int .i64 a0_4, .bool a0_5, .int .i64 a0_6], .int .i64 a1] w fun e w' => e = .returned (.int .i64 r) ∧ Below w.heap.size w w' := by
 have hu32 := Try.underlying32
 have HB := Aside0.mk (Below.refl w.heap.size w)
 have H : ((impl_CartOk.f k a0_0 a0_1 a0_2 a0_3 a0_4 a0_5 a0_6).bind fun t499 => (if t499 = true then ((impl_isWord.f a1).bind fun t500 => (if t500 = true then ((impl_Cart_read.f k a0_0 a0_1 a0_2 a0_3 a0_4 a0_5 a0_6 a1).bind fun t501 => (some t501)) else (some (-1)))) else (some (-1)))) = some r := h
 clear h
 replace H := Option.bind_eq_some_iff.mp H
 obtain ⟨t499, A30, H⟩ := H
 have A3 := Aside0.mk A30
 clear A30
 by_cases c4 : t499 = true
 ·subst c4
  replace H : ((impl_isWord.f a1).bind fun t500 => (if t500 = true then ((impl_Cart_read.f k a0_0 a0_1 a0_2 a0_3 a0_4 a0_5 a0_6 a1).bind fun t501 => (some t501)) else (some (-1)))) = some r := by rw [if_pos rfl] at H; exact H
  replace H := Option.bind_eq_some_iff.mp H
  obtain ⟨t500, A50, H⟩ := H
  have A5 := Aside0.mk A50
  clear A50
  by_cases c6 : t500 = true
  ·subst c6
   replace H : ((impl_Cart_read.f k a0_0 a0_1 a0_2 a0_3 a0_4 a0_5 a0_6 a1).bind fun t501 => (some t501)) = some r := by rw [if_pos rfl] at H; exact H
   replace H := Option.bind_eq_some_iff.mp H
   obtain ⟨t501, A70, H⟩ := H
   have A7 := Aside0.mk A70
   clear A70
   obtain rfl := Option.some.inj H
   go_enter Try.func22, Try.ntmps22
   go_wp2_with (first | ((with_reducible refine gate_dst (N := 2) rfl ?_); refine box_event ?hg (N := 2) ?hd (cs := #[.string a0_0, .int .i64 a0_1, .int .i64 a0_2, .string a0_3, .int .i64 a0_4, .bool a0_5, .int .i64 a0_6]) (t := 32) ?hr ?_; (case hd => rfl); (case hg => rfl); (case hr => exact q138_); intro gb498 hg w8 hbox hb; have n0_ := Aside0.mk (below_step q75_ hb); have n1_ := Aside0.mk (hbox); have n2_ := Aside0.mk ((q52_ : w.heap.size ≤ gb498)); have n3_ := Aside0.mk ((q52_ : w.heap.size ≤ gb498)); clear HB; have HB := n0_; have BK498 := n1_; have GW498 := n2_; have GE498 := n3_; clear n0_ n1_ n2_ n3_; clear hb hbox hg; have hcz9_0 : w8.cell? ⟨gb498, 0, none⟩ = some (.string a0_0) := (blk_cell BK498.out 0).trans rfl; have hcz9_1 : w8.cell? ⟨gb498, 1, none⟩ = some (.int .i64 a0_1) := (blk_cell BK498.out 1).trans rfl; have hcz9_2 : w8.cell? ⟨gb498, 2, none⟩ = some (.int .i64 a0_2) := (blk_cell BK498.out 2).trans rfl; have hcz9_3 : w8.cell? ⟨gb498, 3, none⟩ = some (.string a0_3) := (blk_cell BK498.out 3).trans rfl; have hcz9_4 : w8.cell? ⟨gb498, 4, none⟩ = some (.int .i64 a0_4) := (blk_cell BK498.out 4).trans rfl; have hcz9_5 : w8.cell? ⟨gb498, 5, none⟩ = some (.bool a0_5) := (blk_cell BK498.out 5).trans rfl; have hcz9_6 : w8.cell? ⟨gb498, 6, none⟩ = some (.int .i64 a0_6) := (blk_cell BK498.out 6).trans rfl; have hfz9_0 := blk_frozen BK498.out 0; have hfz9_1 := blk_frozen BK498.out 1; have hfz9_2 := blk_frozen BK498.out 2; have hfz9_3 := blk_frozen BK498.out 3; have hfz9_4 := blk_frozen BK498.out 4; have hfz9_5 := blk_frozen BK498.out 5; have hfz9_6 := blk_frozen BK498.out 6) | ((with_reducible refine gate_callee (f := 24) rfl ?_); refine goesL_ (some 6) rfl rfl Try.func24 (by kernel_rfl) rfl #[.agg #[.string a0_0, .int .i64 a0_1, .int .i64 a0_2, .string a0_3, .int .i64 a0_4, .bool a0_5, .int .i64 a0_6]] rfl q74_ ?_; (with_reducible refine (impl_CartOk.calls k a0_0 a0_1 a0_2 a0_3 a0_4 a0_5 a0_6 true _ A3.out).mono ?_); rintro e w10 ⟨rfl, hb⟩; refine ⟨_, rfl, ?_⟩; have n0_ := Aside0.mk (blk_below (g := gb498) (o := .cells #[.string a0_0, .int .i64 a0_1, .int .i64 a0_2, .string a0_3, .int .i64 a0_4, .bool a0_5, .int .i64 a0_6] 32 (0, 0)) q96_ hb); have n1_ := Aside0.mk (below_step q64_ hb); clear BK498; clear HB; have BK498 := n0_; have HB := n1_; clear n0_ n1_; (try clear hb)) | (go_at_call 59; (with_reducible refine (impl_isWord.calls a1 true _ A5.out).mono ?_); rintro e w' ⟨rfl, ⟨nd, rfl⟩⟩; have hcz11_0 : w10.cell? ⟨gb498, 0, none⟩ = some (.string a0_0) := (blk_cell BK498.out 0).trans rfl; have hcz11_1 : w10.cell? ⟨gb498, 1, none⟩ = some (.int .i64 a0_1) := (blk_cell BK498.out 1).trans rfl; have hcz11_2 : w10.cell? ⟨gb498, 2, none⟩ = some (.int .i64 a0_2) := (blk_cell BK498.out 2).trans rfl; have hcz11_3 : w10.cell? ⟨gb498, 3, none⟩ = some (.string a0_3) := (blk_cell BK498.out 3).trans rfl; have hcz11_4 : w10.cell? ⟨gb498, 4, none⟩ = some (.int .i64 a0_4) := (blk_cell BK498.out 4).trans rfl; have hcz11_5 : w10.cell? ⟨gb498, 5, none⟩ = some (.bool a0_5) := (blk_cell BK498.out 5).trans rfl; have hcz11_6 : w10.cell? ⟨gb498, 6, none⟩ = some (.int .i64 a0_6) := (blk_cell BK498.out 6).trans rfl; have hfz11_0 := blk_frozen BK498.out 0; have hfz11_1 := blk_frozen BK498.out 1; have hfz11_2 := blk_frozen BK498.out 2; have hfz11_3 := blk_frozen BK498.out 3; have hfz11_4 := blk_frozen BK498.out 4; have hfz11_5 := blk_frozen BK498.out 5; have hfz11_6 := blk_frozen BK498.out 6) | ((with_reducible refine gate_callee (f := 66) rfl ?_); refine goesL_ (some 15) rfl rfl Try.func66 (by kernel_rfl) rfl #[.agg #[.string a0_0, .int .i64 a0_1, .int .i64 a0_2, .string a0_3, .int .i64 a0_4, .bool a0_5, .int .i64 a0_6], .int .i64 a1] rfl q74_ ?_; (with_reducible refine (impl_Cart_read.calls k a0_0 a0_1 a0_2 a0_3 a0_4 a0_5 a0_6 a1 t501 _ A7.out).mono ?_); rintro e w12 ⟨rfl, hb⟩; refine ⟨_, rfl, ?_⟩; have n0_ := Aside0.mk (blk_below (g := gb498) (o := .cells #[.string a0_0, .int .i64 a0_1, .int .i64 a0_2, .string a0_3, .int .i64 a0_4, .bool a0_5, .int .i64 a0_6] 32 (0, 0)) q96_ hb); have n1_ := Aside0.mk (below_step q64_ hb); clear BK498; clear HB; have BK498 := n0_; have HB := n1_; clear n0_ n1_; (try clear hb)))
   go_ret
   exact ⟨q76_, q64_⟩
  ·replace c6 := Bool.eq_false_iff.mpr c6
   subst c6
   replace H : (some (-1)) = some r := by rw [if_neg (show ¬ (false = true) by decide)] at H; exact H
   obtain rfl := Option.some.inj H
   go_enter Try.func22, Try.ntmps22
   go_wp2_with (first | ((with_reducible refine gate_dst (N := 2) rfl ?_); refine box_event ?hg (N := 2) ?hd (cs := #[.string a0_0, .int .i64 a0_1, .int .i64 a0_2, .string a0_3, .int .i64 a0_4, .bool a0_5, .int .i64 a0_6]) (t := 32) ?hr ?_; (case hd => rfl); (case hg => rfl); (case hr => exact q138_); intro gb498 hg w13 hbox hb; have n0_ := Aside0.mk (below_step q75_ hb); have n1_ := Aside0.mk (hbox); have n2_ := Aside0.mk ((q52_ : w.heap.size ≤ gb498)); have n3_ := Aside0.mk ((q52_ : w.heap.size ≤ gb498)); clear HB; have HB := n0_; have BK498 := n1_; have GW498 := n2_; have GE498 := n3_; clear n0_ n1_ n2_ n3_; clear hb hbox hg; have hcz14_0 : w13.cell? ⟨gb498, 0, none⟩ = some (.string a0_0) := (blk_cell BK498.out 0).trans rfl; have hcz14_1 : w13.cell? ⟨gb498, 1, none⟩ = some (.int .i64 a0_1) := (blk_cell BK498.out 1).trans rfl; have hcz14_2 : w13.cell? ⟨gb498, 2, none⟩ = some (.int .i64 a0_2) := (blk_cell BK498.out 2).trans rfl; have hcz14_3 : w13.cell? ⟨gb498, 3, none⟩ = some (.string a0_3) := (blk_cell BK498.out 3).trans rfl; have hcz14_4 : w13.cell? ⟨gb498, 4, none⟩ = some (.int .i64 a0_4) := (blk_cell BK498.out 4).trans rfl; have hcz14_5 : w13.cell? ⟨gb498, 5, none⟩ = some (.bool a0_5) := (blk_cell BK498.out 5).trans rfl; have hcz14_6 : w13.cell? ⟨gb498, 6, none⟩ = some (.int .i64 a0_6) := (blk_cell BK498.out 6).trans rfl; have hfz14_0 := blk_frozen BK498.out 0; have hfz14_1 := blk_frozen BK498.out 1; have hfz14_2 := blk_frozen BK498.out 2; have hfz14_3 := blk_frozen BK498.out 3; have hfz14_4 := blk_frozen BK498.out 4; have hfz14_5 := blk_frozen BK498.out 5; have hfz14_6 := blk_frozen BK498.out 6) | ((with_reducible refine gate_callee (f := 24) rfl ?_); refine goesL_ (some 6) rfl rfl Try.func24 (by kernel_rfl) rfl #[.agg #[.string a0_0, .int .i64 a0_1, .int .i64 a0_2, .string a0_3, .int .i64 a0_4, .bool a0_5, .int .i64 a0_6]] rfl q74_ ?_; (with_reducible refine (impl_CartOk.calls k a0_0 a0_1 a0_2 a0_3 a0_4 a0_5 a0_6 true _ A3.out).mono ?_); rintro e w15 ⟨rfl, hb⟩; refine ⟨_, rfl, ?_⟩; have n0_ := Aside0.mk (blk_below (g := gb498) (o := .cells #[.string a0_0, .int .i64 a0_1, .int .i64 a0_2, .string a0_3, .int .i64 a0_4, .bool a0_5, .int .i64 a0_6] 32 (0, 0)) q96_ hb); have n1_ := Aside0.mk (below_step q64_ hb); clear BK498; clear HB; have BK498 := n0_; have HB := n1_; clear n0_ n1_; (try clear hb)) | (go_at_call 59; (with_reducible refine (impl_isWord.calls a1 false _ A5.out).mono ?_); rintro e w' ⟨rfl, ⟨nd, rfl⟩⟩))
   go_ret
   exact ⟨q76_, q64_⟩
 ·replace c4 := Bool.eq_false_iff.mpr c4
  subst c4
  replace H : (some (-1)) = some r := by rw [if_neg (show ¬ (false = true) by decide)] at H; exact H
  obtain rfl := Option.some.inj H
  go_enter Try.func22, Try.ntmps22
  go_wp2_with (first | ((with_reducible refine gate_dst (N := 2) rfl ?_); refine box_event ?hg (N := 2) ?hd (cs := #[.string a0_0, .int .i64 a0_1, .int .i64 a0_2, .string a0_3, .int .i64 a0_4, .bool a0_5, .int .i64 a0_6]) (t := 32) ?hr ?_; (case hd => rfl); (case hg => rfl); (case hr => exact q138_); intro gb498 hg w16 hbox hb; have n0_ := Aside0.mk (below_step q75_ hb); have n1_ := Aside0.mk (hbox); have n2_ := Aside0.mk ((q52_ : w.heap.size ≤ gb498)); have n3_ := Aside0.mk ((q52_ : w.heap.size ≤ gb498)); clear HB; have HB := n0_; have BK498 := n1_; have GW498 := n2_; have GE498 := n3_; clear n0_ n1_ n2_ n3_; clear hb hbox hg; have hcz17_0 : w16.cell? ⟨gb498, 0, none⟩ = some (.string a0_0) := (blk_cell BK498.out 0).trans rfl; have hcz17_1 : w16.cell? ⟨gb498, 1, none⟩ = some (.int .i64 a0_1) := (blk_cell BK498.out 1).trans rfl; have hcz17_2 : w16.cell? ⟨gb498, 2, none⟩ = some (.int .i64 a0_2) := (blk_cell BK498.out 2).trans rfl; have hcz17_3 : w16.cell? ⟨gb498, 3, none⟩ = some (.string a0_3) := (blk_cell BK498.out 3).trans rfl; have hcz17_4 : w16.cell? ⟨gb498, 4, none⟩ = some (.int .i64 a0_4) := (blk_cell BK498.out 4).trans rfl; have hcz17_5 : w16.cell? ⟨gb498, 5, none⟩ = some (.bool a0_5) := (blk_cell BK498.out 5).trans rfl; have hcz17_6 : w16.cell? ⟨gb498, 6, none⟩ = some (.int .i64 a0_6) := (blk_cell BK498.out 6).trans rfl; have hfz17_0 := blk_frozen BK498.out 0; have hfz17_1 := blk_frozen BK498.out 1; have hfz17_2 := blk_frozen BK498.out 2; have hfz17_3 := blk_frozen BK498.out 3; have hfz17_4 := blk_frozen BK498.out 4; have hfz17_5 := blk_frozen BK498.out 5; have hfz17_6 := blk_frozen BK498.out 6) | ((with_reducible refine gate_callee (f := 24) rfl ?_); refine goesL_ (some 6) rfl rfl Try.func24 (by kernel_rfl) rfl #[.agg #[.string a0_0, .int .i64 a0_1, .int .i64 a0_2, .string a0_3, .int .i64 a0_4, .bool a0_5, .int .i64 a0_6]] rfl q74_ ?_; (with_reducible refine (impl_CartOk.calls k a0_0 a0_1 a0_2 a0_3 a0_4 a0_5 a0_6 false _ A3.out).mono ?_); rintro e w18 ⟨rfl, hb⟩; refine ⟨_, rfl, ?_⟩; have n0_ := Aside0.mk (blk_below (g := gb498) (o := .cells #[.string a0_0, .int .i64 a0_1, .int .i64 a0_2, .string a0_3, .int .i64 a0_4, .bool a0_5, .int .i64 a0_6] 32 (0, 0)) q96_ hb); have n1_ := Aside0.mk (below_step q64_ hb); clear BK498; clear HB; have BK498 := n0_; have HB := n1_; clear n0_ n1_; (try clear hb)))
  go_ret
  exact ⟨q76_, q64_⟩
end Go.Proofs.Ytcohcndliaaacaa.QFnCartReads
