/- The machine's side of a law, written by a program of this session for this claim. -/
import Derived.Test.YtodlnnoekccmmaaGreatDoorYQq
import Derived.Test.YtodlnnoekccmmaaGreatDoorYQFnReadInsx0
import Derived.Test.YtodlnnoekccmmaaGreatDoorYQFnReadInsx2
import Derived.Test.YtodlnnoekccmmaaGreatDoorYQFnReadInsx7
namespace Go.Proofs.YtodlnnoekccmmaaGreatDoor.QFnReadIns
open Go.Proofs.YtodlnnoekccmmaaGreatDoor.Qq
open Go.RowKit Go.Proofs.YtodlnnoekccmmaaGreatDoor.LibX Go.Proofs.YtodlnnoekccmmaaGreatDoor.LibE Go.Proofs.YtodlnnoekccmmaaGreatDoorW.PrintWords Go.Proofs.YtodlnnoekccmmaaGreatDoorW.PrintLast Go.Proofs.YtodlnnoekccmmaaGreatDoorW.PrintMore
attribute [local go_sem] max2_int min2_int max_two min_two max_three min_three max_four min_four   -- for this text's walks alone
set_option maxHeartbeats 8000000
set_option maxRecDepth 100000
set_option linter.unusedVariables false
set_option linter.unusedSimpArgs false
mutual
def impl_ReadIns.j0 : Nat → ByteArray → Int → Bool → Int → Bool → Int → Option (Int × Bool × Int × Int)
 | 0, _, _, _, _, _, _ => none
 | k + 1, x0, x7, x44, x270000, x270001, x270002 => if x44 = true then (some (0, false, 0, 0)) else (impl_ReadIns.l0 k x0 x7 (wrap64 (x7 - 1)) x270000 x270001 x270002)
def impl_ReadIns.l0 : Nat → ByteArray → Int → Int → Int → Bool → Int → Option (Int × Bool × Int × Int)
 | 0, _, _, _, _, _, _ => none
 | k + 1, x0, x7, x8, x270000, x270001, x270002 => if x8 > 0 then (if 0 ≤ x8 then (if x8 < (x0.size : Int) then (impl_ReadIns.l0 k x0 x7 (wrap64 (x8 - 1)) x270000 x270001 (Go.bits .or .i64 (wrap64 (x270002 * 256)) (wrap64 (bt x0 x8)))) else (none)) else (none)) else (some (x270000, x270001, x270002, x7))
end
def impl_ReadIns.f (k : Nat) (a0 : ByteArray) (a1 : Int) : Option (Int × Bool × Int × Int) := (impl_within.f a1 0 (wrap64 ((a0.size : Int) - 1))).bind fun t268 => (if t268 = true then (if 0 ≤ a1 then (if a1 ≤ (a0.size : Int) then (if 0 < ((a0.extract (a1 : Int).toNat a0.size).size : Int) then (if (bt (a0.extract (a1 : Int).toNat a0.size) 0) = 203 then (if ((a0.extract (a1 : Int).toNat a0.size).size : Int) < 2 then (some (0, false, 0, 0)) else (if 1 < ((a0.extract (a1 : Int).toNat a0.size).size : Int) then (some (wrap64 (bt (a0.extract (a1 : Int).toNat a0.size) 1), true, 0, 2)) else (none))) else ((impl_LengthOf.f k (wrap64 (bt (a0.extract (a1 : Int).toNat a0.size) 0)) false).bind fun t270 => (if t270 = 0 then (impl_ReadIns.j0 k (a0.extract (a1 : Int).toNat a0.size) t270 true (wrap64 (bt (a0.extract (a1 : Int).toNat a0.size) 0)) false 0) else (impl_ReadIns.j0 k (a0.extract (a1 : Int).toNat a0.size) t270 (decide (((a0.extract (a1 : Int).toNat a0.size).size : Int) < t270)) (wrap64 (bt (a0.extract (a1 : Int).toNat a0.size) 0)) false 0)))) else (none)) else (none)) else (none)) else (some (0, false, 0, 0)))
theorem impl_ReadIns.mono_l : ∀ k, (∀ y0 y1 y2 y3 y4 y5, LeO (impl_ReadIns.j0 k y0 y1 y2 y3 y4 y5) (impl_ReadIns.j0 (k + 1) y0 y1 y2 y3 y4 y5)) ∧ (∀ y0 y1 y2 y3 y4 y5, LeO (impl_ReadIns.l0 k y0 y1 y2 y3 y4 y5) (impl_ReadIns.l0 (k + 1) y0 y1 y2 y3 y4 y5))
 | 0 => ⟨fun _ _ _ _ _ _ r h => by simp [impl_ReadIns.j0] at h, fun _ _ _ _ _ _ r h => by simp [impl_ReadIns.l0] at h⟩
 | k + 1 => by
  obtain ⟨ih0, ih1⟩ := impl_ReadIns.mono_l k
  refine ⟨?_, ?_⟩
  ·intro y0 y1 y2 y3 y4 y5
   unfold impl_ReadIns.j0
   repeat' first
   | (with_reducible first | exact ih0 _ _ _ _ _ _ | exact ih1 _ _ _ _ _ _ | exact impl_LengthOf.mono _ _ _ | exact LeO.refl _ | exact LeO.none _ | refine LeO.ite ?_ ?_ | refine LeO.bind ?_ (fun _ => ?_))
   | exact ih0 _ _ _ _ _ _
   | exact ih1 _ _ _ _ _ _
   | exact impl_LengthOf.mono _ _ _
   | exact LeO.none _
   | refine LeO.ite ?_ ?_
   | refine LeO.bind ?_ (fun _ => ?_)
  ·intro y0 y1 y2 y3 y4 y5
   unfold impl_ReadIns.l0
   repeat' first
   | (with_reducible first | exact ih0 _ _ _ _ _ _ | exact ih1 _ _ _ _ _ _ | exact impl_LengthOf.mono _ _ _ | exact LeO.refl _ | exact LeO.none _ | refine LeO.ite ?_ ?_ | refine LeO.bind ?_ (fun _ => ?_))
   | exact ih0 _ _ _ _ _ _
   | exact ih1 _ _ _ _ _ _
   | exact impl_LengthOf.mono _ _ _
   | exact LeO.none _
   | refine LeO.ite ?_ ?_
   | refine LeO.bind ?_ (fun _ => ?_)
theorem impl_ReadIns.mono : ∀ a0 a1 k, LeO (impl_ReadIns.f k a0 a1) (impl_ReadIns.f (k + 1) a0 a1) := by
 intro a0 a1 k
 obtain ⟨ih0, ih1⟩ := impl_ReadIns.mono_l k
 unfold impl_ReadIns.f
 repeat' first
   | (with_reducible first | exact ih0 _ _ _ _ _ _ | exact ih1 _ _ _ _ _ _ | exact impl_LengthOf.mono _ _ _ | exact LeO.refl _ | exact LeO.none _ | refine LeO.ite ?_ ?_ | refine LeO.bind ?_ (fun _ => ?_))
   | exact ih0 _ _ _ _ _ _
   | exact ih1 _ _ _ _ _ _
   | exact impl_LengthOf.mono _ _ _
   | exact LeO.none _
   | refine LeO.ite ?_ ?_
   | refine LeO.bind ?_ (fun _ => ?_)
def impl_ReadIns.T15 : Bool × List (List Nat × List Nat) := (true, [([], []), ([0], [0]), ([1], [1]), ([], []), ([], []), ([3, 4], [3, 4]), ([5], [5]), ([2, 6], [2, 6]), ([0, 1, 2, 3, 4, 5, 6, 7], []), ([8, 7, 0, 1, 2, 3, 4, 5, 6, 7], [7, 8])])
def impl_ReadIns.B15 : List Nat := [0, 1, 3, 0, 0, 24, 56, 127, 255, 511]
theorem impl_ReadIns.tab15 : rtab .any (opsOf Tryz.f22 15) = impl_ReadIns.T15 := by kernel_rfl
theorem impl_ReadIns.bits15 : waitsOk impl_ReadIns.T15.2 impl_ReadIns.B15 = true := by kernel_rfl
theorem impl_ReadIns.calls (k : Nat) (a0 : ByteArray) (a1 : Int) (r1 : Int) (r2 : Bool) (r3 : Int) (r4 : Int) (w : World) (h : impl_ReadIns.f k a0 a1 = some (r1, r2, r3, r4)) (hG : Go.Proofs.YtodlnnoekccmmaaGreatDoor.LibW.GL w := by first | exact hG | exact hG.below q4_ | exact hG.drewN _) :
  Calls Tryz.prog 22 #[.string a0, .int .i64 a1] w fun e w' => e = .returned (.tuple #[.agg #[.int .i64 r1, .bool r2, .int .i64 r3], .int .i64 r4]) ∧ Below w.heap.size w w' := by
 have hu30 := Tryz.underlying30
 have HB := Aside0.mk (Below.refl w.heap.size w)
 have H : ((impl_within.f a1 0 (wrap64 ((a0.size : Int) - 1))).bind fun t268 => (if t268 = true then (if 0 ≤ a1 then (if a1 ≤ (a0.size : Int) then (if 0 < ((a0.extract (a1 : Int).toNat a0.size).size : Int) then (if (bt (a0.extract (a1 : Int).toNat a0.size) 0) = 203 then (if ((a0.extract (a1 : Int).toNat a0.size).size : Int) < 2 then (some (0, false, 0, 0)) else (if 1 < ((a0.extract (a1 : Int).toNat a0.size).size : Int) then (some (wrap64 (bt (a0.extract (a1 : Int).toNat a0.size) 1), true, 0, 2)) else (none))) else ((impl_LengthOf.f k (wrap64 (bt (a0.extract (a1 : Int).toNat a0.size) 0)) false).bind fun t270 => (if t270 = 0 then (impl_ReadIns.j0 k (a0.extract (a1 : Int).toNat a0.size) t270 true (wrap64 (bt (a0.extract (a1 : Int).toNat a0.size) 0)) false 0) else (impl_ReadIns.j0 k (a0.extract (a1 : Int).toNat a0.size) t270 (decide (((a0.extract (a1 : Int).toNat a0.size).size : Int) < t270)) (wrap64 (bt (a0.extract (a1 : Int).toNat a0.size) 0)) false 0)))) else (none)) else (none)) else (none)) else (some (0, false, 0, 0)))) = some (r1, r2, r3, r4) := h
 clear h
 replace H := Option.bind_eq_some_iff.mp H
 obtain ⟨t268, A30, H⟩ := H
 have A3 := Aside0.mk A30
 clear A30
 by_cases c4 : t268 = true
 ·subst c4
  replace H : (if 0 ≤ a1 then (if a1 ≤ (a0.size : Int) then (if 0 < ((a0.extract (a1 : Int).toNat a0.size).size : Int) then (if (bt (a0.extract (a1 : Int).toNat a0.size) 0) = 203 then (if ((a0.extract (a1 : Int).toNat a0.size).size : Int) < 2 then (some (0, false, 0, 0)) else (if 1 < ((a0.extract (a1 : Int).toNat a0.size).size : Int) then (some (wrap64 (bt (a0.extract (a1 : Int).toNat a0.size) 1), true, 0, 2)) else (none))) else ((impl_LengthOf.f k (wrap64 (bt (a0.extract (a1 : Int).toNat a0.size) 0)) false).bind fun t270 => (if t270 = 0 then (impl_ReadIns.j0 k (a0.extract (a1 : Int).toNat a0.size) t270 true (wrap64 (bt (a0.extract (a1 : Int).toNat a0.size) 0)) false 0) else (impl_ReadIns.j0 k (a0.extract (a1 : Int).toNat a0.size) t270 (decide (((a0.extract (a1 : Int).toNat a0.size).size : Int) < t270)) (wrap64 (bt (a0.extract (a1 : Int).toNat a0.size) 0)) false 0)))) else (none)) else (none)) else (none)) = some (r1, r2, r3, r4) := by rw [if_pos rfl] at H; exact H
  by_cases c5 : 0 ≤ a1
  ·rw [if_pos c5] at H
   have c5b0 := eq_true c5
   have c5b1 : decide (0 ≤ a1) = true := decide_eq_true c5
   clear c5
   by_cases c6 : a1 ≤ (a0.size : Int)
   ·rw [if_pos c6] at H
    have c6b0 := eq_true c6
    have c6b1 : decide (a1 ≤ (a0.size : Int)) = true := decide_eq_true c6
    clear c6
    by_cases c7 : 0 < ((a0.extract (a1 : Int).toNat a0.size).size : Int)
    ·rw [if_pos c7] at H
     have c7b0 : decide (0 < ((a0.extract (a1 : Int).toNat a0.size).size : Int)) = true := decide_eq_true c7
     (try (have c7b0e := c7b0; simp only [ByteArray.size_append, ByteArray.size_extract, Nat.min_self, Nat.sub_zero] at c7b0e))
     (try (first | (have c7b0p := eq_true (of_decide_eq_true c7b0e)) | (have c7b0p := eq_false (of_decide_eq_false c7b0e))))
     have c7b1 : decide (0 < (a0.extract (a1 : Int).toNat a0.size).size) = true := decide_eq_true (by omega)
     (try (have c7b1e := c7b1; simp only [ByteArray.size_append, ByteArray.size_extract, Nat.min_self, Nat.sub_zero] at c7b1e))
     (try (first | (have c7b1p := eq_true (of_decide_eq_true c7b1e)) | (have c7b1p := eq_false (of_decide_eq_false c7b1e))))
     clear c7
     by_cases c9 : (bt (a0.extract (a1 : Int).toNat a0.size) 0) = 203
     ·rw [if_pos c9] at H
      have c9b0 : ((bt (a0.extract (a1 : Int).toNat a0.size) 0) == 203) = true := beq_iff_eq.mpr c9
      have c9b1 : ((bt (a0.extract (a1 : Int).toNat a0.size) 0) != 203) = false := bne_eq_false_iff_eq.mpr c9
      clear c9
      by_cases c10 : ((a0.extract (a1 : Int).toNat a0.size).size : Int) < 2
      ·rw [if_pos c10] at H
       have c10b0 : decide (((a0.extract (a1 : Int).toNat a0.size).size : Int) < 2) = true := decide_eq_true c10
       (try (have c10b0e := c10b0; simp only [ByteArray.size_append, ByteArray.size_extract, Nat.min_self, Nat.sub_zero] at c10b0e))
       (try (first | (have c10b0p := eq_true (of_decide_eq_true c10b0e)) | (have c10b0p := eq_false (of_decide_eq_false c10b0e))))
       have c10b1 : decide ((a0.extract (a1 : Int).toNat a0.size).size < 2) = true := decide_eq_true (by omega)
       (try (have c10b1e := c10b1; simp only [ByteArray.size_append, ByteArray.size_extract, Nat.min_self, Nat.sub_zero] at c10b1e))
       (try (first | (have c10b1p := eq_true (of_decide_eq_true c10b1e)) | (have c10b1p := eq_false (of_decide_eq_false c10b1e))))
       clear c10
       simp only [Option.some.injEq, Prod.mk.injEq] at H
       obtain ⟨rfl, rfl, rfl, rfl⟩ := H
       go_enter Tryz.func22, Tryz.ntmps22
       go_wp2_with (first | ((with_reducible refine gate_dst (N := 4) rfl ?_); (try (refine gate_guard (by rfl) ?_; dsimp only)); refine box_event ?hg (N := 4) ?hd (cs := #[.int .i64 0, .bool false, .int .i64 0]) (t := 30) ?hr ?_; (case hd => rfl); (case hg => rfl); (case hr => exact q111_); intro gb267 hg w11 hbox hb; have n0_ := Aside0.mk (below_step q52_ hb); have n1_ := Aside0.mk (hbox); have n2_ := Aside0.mk ((q36_ : w.heap.size ≤ gb267)); have n3_ := Aside0.mk ((q36_ : w.heap.size ≤ gb267)); clear HB; have HB := n0_; have BK267 := n1_; have GW267 := n2_; have GE267 := n3_; clear n0_ n1_ n2_ n3_; clear hb hbox hg) | ((with_reducible refine gate_callee (f := 61) rfl ?_); refine goesL_ (some 13) rfl rfl Tryz.func61 (by kernel_rfl) rfl #[.int .i64 a1, .int .i64 0, .int .i64 (wrap64 ((a0.size : Int) - 1))] rfl q7_ ?_; (with_reducible refine (impl_within.calls a1 0 (wrap64 ((a0.size : Int) - 1)) true _ A3.out).mono ?_); rintro e w' ⟨rfl, ⟨nd, rfl⟩⟩; refine ⟨_, rfl, ?_⟩; (try (rw [drewN_self w11]; generalize hq_ : World.drewN w11 _ = w11; have n0_ : Aside0 (w11.heap[gb267]? = some (.cells #[.int .i64 0, .bool false, .int .i64 0] 30 (0, 0))) := ⟨q49_⟩; have n1_ : Aside0 (Below w.heap.size w w11) := ⟨q29_⟩; clear BK267 HB hq_; have BK267 := n0_; have HB := n1_; clear n0_ n1_)); have p8 : 0 ≤ (0 : Int) := (by omega); have q8 : 0 < (a0.extract (a1 : Int).toNat a0.size).size := (by have : (0 : Int) < ((a0.extract (a1 : Int).toNat a0.size).size : Int) := of_decide_eq_true q82_; omega); have hx8 : ∀ h : 0 < (a0.extract (a1 : Int).toNat a0.size).size, (((a0.extract (a1 : Int).toNat a0.size)[0]'h).toNat : Int) = bt (a0.extract (a1 : Int).toNat a0.size) 0 := bt_at (a0.extract (a1 : Int).toNat a0.size) 0; clear p8; have qi8 : (0 < ((a0.extract (a1 : Int).toNat a0.size).size : Int)) = True := eq_true (of_decide_eq_true q82_); replace q8 := eq_true q8; have hcz12_0 : w11.cell? ⟨gb267, 0, none⟩ = some (.int .i64 0) := (blk_cell BK267.out 0).trans rfl; have hcz12_1 : w11.cell? ⟨gb267, 1, none⟩ = some (.bool false) := (blk_cell BK267.out 1).trans rfl; have hcz12_2 : w11.cell? ⟨gb267, 2, none⟩ = some (.int .i64 0) := (blk_cell BK267.out 2).trans rfl; have hfz12_0 := blk_frozen BK267.out 0; have hfz12_1 := blk_frozen BK267.out 1; have hfz12_2 := blk_frozen BK267.out 2))
       refine bodyPost_ret (results_ct rfl _ _ gb267 30 #[.int .i64 0, .bool false, .int .i64 0] (0, 0) _ rfl q1_ Tryz.underlying30 rfl (by kernel_rfl)) rfl ?_
       exact ⟨q54_, q39_⟩
      ·rw [if_neg c10] at H
       have c10b0 : decide (((a0.extract (a1 : Int).toNat a0.size).size : Int) < 2) = false := decide_eq_false c10
       (try (have c10b0e := c10b0; simp only [ByteArray.size_append, ByteArray.size_extract, Nat.min_self, Nat.sub_zero] at c10b0e))
       (try (first | (have c10b0p := eq_true (of_decide_eq_true c10b0e)) | (have c10b0p := eq_false (of_decide_eq_false c10b0e))))
       have c10b1 : decide ((a0.extract (a1 : Int).toNat a0.size).size < 2) = false := decide_eq_false (by omega)
       (try (have c10b1e := c10b1; simp only [ByteArray.size_append, ByteArray.size_extract, Nat.min_self, Nat.sub_zero] at c10b1e))
       (try (first | (have c10b1p := eq_true (of_decide_eq_true c10b1e)) | (have c10b1p := eq_false (of_decide_eq_false c10b1e))))
       clear c10
       by_cases c13 : 1 < ((a0.extract (a1 : Int).toNat a0.size).size : Int)
       ·rw [if_pos c13] at H
        have c13b0 : decide (1 < ((a0.extract (a1 : Int).toNat a0.size).size : Int)) = true := decide_eq_true c13
        (try (have c13b0e := c13b0; simp only [ByteArray.size_append, ByteArray.size_extract, Nat.min_self, Nat.sub_zero] at c13b0e))
        (try (first | (have c13b0p := eq_true (of_decide_eq_true c13b0e)) | (have c13b0p := eq_false (of_decide_eq_false c13b0e))))
        have c13b1 : decide (1 < (a0.extract (a1 : Int).toNat a0.size).size) = true := decide_eq_true (by omega)
        (try (have c13b1e := c13b1; simp only [ByteArray.size_append, ByteArray.size_extract, Nat.min_self, Nat.sub_zero] at c13b1e))
        (try (first | (have c13b1p := eq_true (of_decide_eq_true c13b1e)) | (have c13b1p := eq_false (of_decide_eq_false c13b1e))))
        clear c13
        simp only [Option.some.injEq, Prod.mk.injEq] at H
        obtain ⟨rfl, rfl, rfl, rfl⟩ := H
        go_enter Tryz.func22, Tryz.ntmps22
        go_wp2_with (first | ((with_reducible refine gate_dst (N := 4) rfl ?_); (try (refine gate_guard (by rfl) ?_; dsimp only)); refine box_event ?hg (N := 4) ?hd (cs := #[.int .i64 0, .bool false, .int .i64 0]) (t := 30) ?hr ?_; (case hd => rfl); (case hg => rfl); (case hr => exact q111_); intro gb267 hg w15 hbox hb; have n0_ := Aside0.mk (below_step q52_ hb); have n1_ := Aside0.mk (hbox); have n2_ := Aside0.mk ((q36_ : w.heap.size ≤ gb267)); have n3_ := Aside0.mk ((q36_ : w.heap.size ≤ gb267)); clear HB; have HB := n0_; have BK267 := n1_; have GW267 := n2_; have GE267 := n3_; clear n0_ n1_ n2_ n3_; clear hb hbox hg) | ((with_reducible refine gate_callee (f := 61) rfl ?_); refine goesL_ (some 13) rfl rfl Tryz.func61 (by kernel_rfl) rfl #[.int .i64 a1, .int .i64 0, .int .i64 (wrap64 ((a0.size : Int) - 1))] rfl q7_ ?_; (with_reducible refine (impl_within.calls a1 0 (wrap64 ((a0.size : Int) - 1)) true _ A3.out).mono ?_); rintro e w' ⟨rfl, ⟨nd, rfl⟩⟩; refine ⟨_, rfl, ?_⟩; (try (rw [drewN_self w15]; generalize hq_ : World.drewN w15 _ = w15; have n0_ : Aside0 (w15.heap[gb267]? = some (.cells #[.int .i64 0, .bool false, .int .i64 0] 30 (0, 0))) := ⟨q49_⟩; have n1_ : Aside0 (Below w.heap.size w w15) := ⟨q29_⟩; clear BK267 HB hq_; have BK267 := n0_; have HB := n1_; clear n0_ n1_)); have p8 : 0 ≤ (0 : Int) := (by omega); have q8 : 0 < (a0.extract (a1 : Int).toNat a0.size).size := (by have : (0 : Int) < ((a0.extract (a1 : Int).toNat a0.size).size : Int) := of_decide_eq_true q82_; omega); have hx8 : ∀ h : 0 < (a0.extract (a1 : Int).toNat a0.size).size, (((a0.extract (a1 : Int).toNat a0.size)[0]'h).toNat : Int) = bt (a0.extract (a1 : Int).toNat a0.size) 0 := bt_at (a0.extract (a1 : Int).toNat a0.size) 0; clear p8; have qi8 : (0 < ((a0.extract (a1 : Int).toNat a0.size).size : Int)) = True := eq_true (of_decide_eq_true q82_); replace q8 := eq_true q8; have p14 : 0 ≤ (1 : Int) := (by omega); have q14 : 1 < (a0.extract (a1 : Int).toNat a0.size).size := (by have : (1 : Int) < ((a0.extract (a1 : Int).toNat a0.size).size : Int) := of_decide_eq_true q82_; omega); have hx14 : ∀ h : 1 < (a0.extract (a1 : Int).toNat a0.size).size, (((a0.extract (a1 : Int).toNat a0.size)[1]'h).toNat : Int) = bt (a0.extract (a1 : Int).toNat a0.size) 1 := bt_at (a0.extract (a1 : Int).toNat a0.size) 1; clear p14; have qi14 : (1 < ((a0.extract (a1 : Int).toNat a0.size).size : Int)) = True := eq_true (of_decide_eq_true q82_); replace q14 := eq_true q14; have hcz16_0 : w15.cell? ⟨gb267, 0, none⟩ = some (.int .i64 0) := (blk_cell BK267.out 0).trans rfl; have hcz16_1 : w15.cell? ⟨gb267, 1, none⟩ = some (.bool false) := (blk_cell BK267.out 1).trans rfl; have hcz16_2 : w15.cell? ⟨gb267, 2, none⟩ = some (.int .i64 0) := (blk_cell BK267.out 2).trans rfl; have hfz16_0 := blk_frozen BK267.out 0; have hfz16_1 := blk_frozen BK267.out 1; have hfz16_2 := blk_frozen BK267.out 2))
        refine bodyPost_ret (results_ct rfl _ _ gb267 30 #[.int .i64 (wrap64 (bt (a0.extract (a1 : Int).toNat a0.size) 1)), .bool true, .int .i64 0] (0, 0) _ rfl (by (with_reducible repeat (first | refine blk_drewN ?_ _ | refine blk_drew ?_ | refine blk_alloc ?_ _)); refine blk_put (cs := #[.int .i64 (wrap64 (bt (a0.extract (a1 : Int).toNat a0.size) 1)), .bool true, .int .i64 0]) ?_ 2 _ rfl; (with_reducible repeat (first | refine blk_drewN ?_ _ | refine blk_drew ?_ | refine blk_alloc ?_ _)); refine blk_put (cs := #[.int .i64 (wrap64 (bt (a0.extract (a1 : Int).toNat a0.size) 1)), .bool false, .int .i64 0]) ?_ 1 _ rfl; (with_reducible repeat (first | refine blk_drewN ?_ _ | refine blk_drew ?_ | refine blk_alloc ?_ _)); refine blk_put (cs := #[.int .i64 0, .bool false, .int .i64 0]) ?_ 0 _ rfl; (with_reducible repeat (first | refine blk_drewN ?_ _ | refine blk_drew ?_ | refine blk_alloc ?_ _)); exact BK267.out) Tryz.underlying30 rfl (by kernel_rfl)) rfl ?_
        exact ⟨q54_, q39_⟩
       ·rw [if_neg c13] at H
        exact absurd H (by simp)
     ·rw [if_neg c9] at H
      have c9b0 : ((bt (a0.extract (a1 : Int).toNat a0.size) 0) == 203) = false := beq_eq_false_iff_ne.mpr c9
      have c9b1 : ((bt (a0.extract (a1 : Int).toNat a0.size) 0) != 203) = true := bne_iff_ne.mpr c9
      replace H := Option.bind_eq_some_iff.mp H
      obtain ⟨t270, A180, H⟩ := H
      have A18 := Aside0.mk A180
      clear A180
      have HC19 := Aside0.mk H
      clear H
      go_enter Tryz.func22, Tryz.ntmps22
      go_upto_region 10 with (first | ((with_reducible refine gate_dst (N := 4) rfl ?_); (try (refine gate_guard (by rfl) ?_; dsimp only)); refine box_event ?hg (N := 4) ?hd (cs := #[.int .i64 0, .bool false, .int .i64 0]) (t := 30) ?hr ?_; (case hd => rfl); (case hg => rfl); (case hr => exact q111_); intro gb267 hg w20 hbox hb; have n0_ := Aside0.mk (below_step q52_ hb); have n1_ := Aside0.mk (hbox); have n2_ := Aside0.mk ((q36_ : w.heap.size ≤ gb267)); have n3_ := Aside0.mk ((q36_ : w.heap.size ≤ gb267)); clear HB; have HB := n0_; have BK267 := n1_; have GW267 := n2_; have GE267 := n3_; clear n0_ n1_ n2_ n3_; clear hb hbox hg) | ((with_reducible refine gate_callee (f := 61) rfl ?_); refine goesL_ (some 13) rfl rfl Tryz.func61 (by kernel_rfl) rfl #[.int .i64 a1, .int .i64 0, .int .i64 (wrap64 ((a0.size : Int) - 1))] rfl q7_ ?_; (with_reducible refine (impl_within.calls a1 0 (wrap64 ((a0.size : Int) - 1)) true _ A3.out).mono ?_); rintro e w' ⟨rfl, ⟨nd, rfl⟩⟩; refine ⟨_, rfl, ?_⟩; (try (rw [drewN_self w20]; generalize hq_ : World.drewN w20 _ = w20; have n0_ : Aside0 (w20.heap[gb267]? = some (.cells #[.int .i64 0, .bool false, .int .i64 0] 30 (0, 0))) := ⟨q49_⟩; have n1_ : Aside0 (Below w.heap.size w w20) := ⟨q29_⟩; clear BK267 HB hq_; have BK267 := n0_; have HB := n1_; clear n0_ n1_)); have p8 : 0 ≤ (0 : Int) := (by omega); have q8 : 0 < (a0.extract (a1 : Int).toNat a0.size).size := (by have : (0 : Int) < ((a0.extract (a1 : Int).toNat a0.size).size : Int) := of_decide_eq_true q82_; omega); have hx8 : ∀ h : 0 < (a0.extract (a1 : Int).toNat a0.size).size, (((a0.extract (a1 : Int).toNat a0.size)[0]'h).toNat : Int) = bt (a0.extract (a1 : Int).toNat a0.size) 0 := bt_at (a0.extract (a1 : Int).toNat a0.size) 0; clear p8; have qi8 : (0 < ((a0.extract (a1 : Int).toNat a0.size).size : Int)) = True := eq_true (of_decide_eq_true q82_); replace q8 := eq_true q8; have p17 : 0 ≤ (0 : Int) := (by omega); have q17 : 0 < (a0.extract (a1 : Int).toNat a0.size).size := (by have : (0 : Int) < ((a0.extract (a1 : Int).toNat a0.size).size : Int) := of_decide_eq_true q82_; omega); have hx17 : ∀ h : 0 < (a0.extract (a1 : Int).toNat a0.size).size, (((a0.extract (a1 : Int).toNat a0.size)[0]'h).toNat : Int) = bt (a0.extract (a1 : Int).toNat a0.size) 0 := bt_at (a0.extract (a1 : Int).toNat a0.size) 0; clear p17; have qi17 : (0 < ((a0.extract (a1 : Int).toNat a0.size).size : Int)) = True := eq_true (of_decide_eq_true q82_); replace q17 := eq_true q17) | ((with_reducible refine gate_dst (N := 6) rfl ?_); (try (refine gate_guard (by rfl) ?_; dsimp only)); refine box_event ?hg (N := 6) ?hd (cs := #[.int .i64 0, .bool false, .int .i64 0]) (t := 30) ?hr ?_; (case hd => rfl); (case hg => rfl); (case hr => exact q111_); intro gb269 hg w21 hbox hb; have n0_ := Aside0.mk (blk_below (g := gb267) (o := .cells #[.int .i64 0, .bool false, .int .i64 0] 30 (0, 0)) q57_ hb); have n1_ := Aside0.mk (below_step q39_ hb); have n2_ := Aside0.mk (hbox); have n3_ := Aside0.mk ((q23_ : w.heap.size ≤ gb269)); have n4_ := Aside0.mk ((q23_ : w.heap.size ≤ gb269)); have n5_ := Aside0.mk ((by rw [hg]; exact Nat.ne_of_lt (blk_lt (g := gb267) (o := .cells #[.int .i64 0, .bool false, .int .i64 0] 30 (0, 0)) q57_) : gb267 ≠ gb269)); have n6_ := Aside0.mk ((by rw [hg]; exact Nat.ne_of_gt (blk_lt (g := gb267) (o := .cells #[.int .i64 0, .bool false, .int .i64 0] 30 (0, 0)) q57_) : gb269 ≠ gb267)); clear BK267; clear HB; have BK267 := n0_; have HB := n1_; have BK269 := n2_; have GW269 := n3_; have GE269 := n4_; have NB267_269 := n5_; have NB269_267 := n6_; clear n0_ n1_ n2_ n3_ n4_ n5_ n6_; clear hb hbox hg; have hnb22 := NB269_267.out; have hnc22 := NB267_269.out; have hcz23_0 : w21.cell? ⟨gb269, 0, none⟩ = some (.int .i64 0) := (blk_cell BK269.out 0).trans rfl; have hcz23_1 : w21.cell? ⟨gb269, 1, none⟩ = some (.bool false) := (blk_cell BK269.out 1).trans rfl; have hcz23_2 : w21.cell? ⟨gb269, 2, none⟩ = some (.int .i64 0) := (blk_cell BK269.out 2).trans rfl; have hfz23_0 := blk_frozen BK269.out 0; have hfz23_1 := blk_frozen BK269.out 1; have hfz23_2 := blk_frozen BK269.out 2) | ((with_reducible refine gate_callee (f := 13) rfl ?_); refine goesL_ (some 36) rfl rfl Tryz.func13 (by kernel_rfl) rfl #[.int .i64 (wrap64 (bt (a0.extract (a1 : Int).toNat a0.size) 0)), .bool false] rfl (by (try simp only [List.map_toArray, List.map_cons, List.map_nil]); first | done | rfl | (simp only [List.length_drop, List.length_take]; rfl) | (refine Eq.trans (b := #[.int .i64 ((bt (a0.extract (a1 : Int).toNat a0.size) 0)), .bool false]) rfl ?_; simp [wrap64] <;> omega)) ?_; (with_reducible refine (impl_LengthOf.calls k (wrap64 (bt (a0.extract (a1 : Int).toNat a0.size) 0)) false t270 _ A18.out).mono ?_); rintro e w24 ⟨rfl, hb⟩; refine ⟨_, rfl, ?_⟩; have n0_ := Aside0.mk (blk_below (g := gb267) (o := .cells #[.int .i64 0, .bool false, .int .i64 0] 30 (0, 0)) (by (with_reducible repeat (first | refine blk_drewN ?_ _ | refine blk_drew ?_ | refine blk_alloc ?_ _)); refine blk_far ?_ NB267_269.out _; (with_reducible repeat (first | refine blk_drewN ?_ _ | refine blk_drew ?_ | refine blk_alloc ?_ _)); refine blk_far ?_ NB267_269.out _; (with_reducible repeat (first | refine blk_drewN ?_ _ | refine blk_drew ?_ | refine blk_alloc ?_ _)); refine blk_far ?_ NB267_269.out _; (with_reducible repeat (first | refine blk_drewN ?_ _ | refine blk_drew ?_ | refine blk_alloc ?_ _)); exact BK267.out) hb); have n1_ := Aside0.mk (blk_below (g := gb269) (o := .cells #[.int .i64 (wrap64 (bt (a0.extract (a1 : Int).toNat a0.size) 0)), .bool false, .int .i64 0] 30 (0, 0)) (by (with_reducible repeat (first | refine blk_drewN ?_ _ | refine blk_drew ?_ | refine blk_alloc ?_ _)); refine blk_put (cs := #[.int .i64 (wrap64 (bt (a0.extract (a1 : Int).toNat a0.size) 0)), .bool false, .int .i64 0]) ?_ 2 _ rfl; (with_reducible repeat (first | refine blk_drewN ?_ _ | refine blk_drew ?_ | refine blk_alloc ?_ _)); refine blk_put (cs := #[.int .i64 (wrap64 (bt (a0.extract (a1 : Int).toNat a0.size) 0)), .bool false, .int .i64 0]) ?_ 1 _ rfl; (with_reducible repeat (first | refine blk_drewN ?_ _ | refine blk_drew ?_ | refine blk_alloc ?_ _)); refine blk_put (cs := #[.int .i64 0, .bool false, .int .i64 0]) ?_ 0 _ rfl; (with_reducible repeat (first | refine blk_drewN ?_ _ | refine blk_drew ?_ | refine blk_alloc ?_ _)); exact BK269.out) hb); have n2_ := Aside0.mk (below_step q26_ hb); clear BK267; clear BK269; clear HB; have BK267 := n0_; have BK269 := n1_; have HB := n2_; clear n0_ n1_ n2_; (try clear hb)))
      (try simp only [Act.put, List.setIfInBounds_toArray, List.set_cons_zero, List.set_cons_succ])
      go_cut [44] (fun v44 wc => ∃ (kq : Nat) (x44_18 : Bool), v44 = .bool x44_18 ∧ Aside0 (impl_ReadIns.j0 kq (a0.extract (a1 : Int).toNat a0.size) t270 x44_18 (wrap64 (bt (a0.extract (a1 : Int).toNat a0.size) 0)) false 0 = some (r1, r2, r3, r4)) ∧ Aside0 (kq ≤ k) ∧ Aside0 (wc.heap[gb267]? = some (.cells #[.int .i64 0, .bool false, .int .i64 0] 30 (0, 0))) ∧ Aside0 (wc.heap[gb269]? = some (.cells #[.int .i64 (wrap64 (bt (a0.extract (a1 : Int).toNat a0.size) 0)), .bool false, .int .i64 0] 30 (0, 0))) ∧ Aside0 (Below w.heap.size w wc))
      case first =>
       have H := HC19.out
       clear HC19
       by_cases c25 : t270 = 0
       ·rw [if_pos c25] at H
        have c25b0 : (t270 == 0) = true := beq_iff_eq.mpr c25
        have c25b1 : (t270 != 0) = false := bne_eq_false_iff_eq.mpr c25
        clear c25
        (first | rw [c25b0] | (simp only [i64_w, i32_w]; rw [c25b0]) | skip)
        have H' := Aside0.mk H
        clear H
        go_wp2
        go_meet
        case rel => exact ⟨_, (true), q68_, H', ⟨q94_⟩, ⟨q57_⟩, ⟨q58_⟩, ⟨q26_⟩⟩
       ·rw [if_neg c25] at H
        have c25b0 : (t270 == 0) = false := beq_eq_false_iff_ne.mpr c25
        have c25b1 : (t270 != 0) = true := bne_iff_ne.mpr c25
        (first | rw [c25b0] | (simp only [i64_w, i32_w]; rw [c25b0]) | skip)
        have H' := Aside0.mk H
        clear H
        go_wp2
        go_meet
        case rel => exact ⟨_, (decide (((a0.extract (a1 : Int).toNat a0.size).size : Int) < t270)), q68_, H', ⟨q94_⟩, ⟨q57_⟩, ⟨q58_⟩, ⟨q26_⟩⟩
      case rest =>
       clear HC19
       try clear c1
       try clear p1
       try clear q1
       try clear hx1
       try clear qi1
       try clear c2
       try clear p2
       try clear c4
       try clear c5
       try clear c5b0
       try clear c5b1
       try clear c6
       try clear c6b0
       try clear c6b1
       try clear p6
       try clear c7
       try clear c7b0
       try clear c7b1
       try clear p8 p8
       try clear q8 q8
       try clear hx8
       try clear qi8
       try clear c9
       try clear c9b0
       try clear c9b1
       try clear c10
       try clear c10b0
       try clear c10b1
       try clear c13
       try clear c13b0
       try clear c13b1
       try clear p14 p14
       try clear q14 q14
       try clear hx14
       try clear qi14
       try clear p17 p17
       try clear q17 q17
       try clear hx17
       try clear qi17
       try clear c22
       try clear c25
       try clear c25b0
       try clear c25b1
       try clear hcz12_0 hcz12_1 hcz12_2
       try clear hcz16_0 hcz16_1 hcz16_2
       try clear hcz23_0 hcz23_1 hcz23_2
       try clear hfz12_0 hfz12_1 hfz12_2
       try clear hfz16_0 hfz16_1 hfz16_2
       try clear hfz23_0 hfz23_1 hfz23_2
       obtain ⟨kq, x44_18, rfl, HA, HJ18, BK267, BK269, HB⟩ := hcut
       cases kq with
       | zero => exact absurd HA.out (by simp [impl_ReadIns.j0])
       | succ kj18 =>
        have H := HA.out
        clear HA
        simp only [impl_ReadIns.j0] at H
        by_cases c26 : x44_18 = true
        ·subst c26
         replace H : (some (0, false, 0, 0)) = some (r1, r2, r3, r4) := by rw [if_pos rfl] at H; exact H
         simp only [Option.some.injEq, Prod.mk.injEq] at H
         obtain ⟨rfl, rfl, rfl, rfl⟩ := H
         have hnb27 := NB267_269.out
         have hnc27 := NB269_267.out
         have hcz28_0 : wc.cell? ⟨gb267, 0, none⟩ = some (.int .i64 0) := bz_ BK267 0
         have hcz28_1 : wc.cell? ⟨gb267, 1, none⟩ = some (.bool false) := bz_ BK267 1
         have hcz28_2 : wc.cell? ⟨gb267, 2, none⟩ = some (.int .i64 0) := bz_ BK267 2
         have hfz28_0 := blk_frozen BK267.out 0
         have hfz28_1 := blk_frozen BK267.out 1
         have hfz28_2 := blk_frozen BK267.out 2
         go_wp2
         refine bodyPost_ret (results_ct rfl _ _ gb267 30 #[.int .i64 0, .bool false, .int .i64 0] (0, 0) _ rfl q1_ Tryz.underlying30 rfl (by kernel_rfl)) rfl ?_
         exact ⟨q54_, q26_⟩
        ·replace c26 := Bool.eq_false_iff.mpr c26
         subst c26
         replace H : (impl_ReadIns.l0 kj18 (a0.extract (a1 : Int).toNat a0.size) t270 (wrap64 (t270 - 1)) (wrap64 (bt (a0.extract (a1 : Int).toNat a0.size) 0)) false 0) = some (r1, r2, r3, r4) := by rw [if_neg (show ¬ (false = true) by decide)] at H; exact H
         have H' := Aside0.mk H
         clear H
         go_wp2
         go_loopg [8] kj18 (fun kq v8 w' => ∃ (x8_2 : Int) (x270002_2 : Int), v8 = .int .i64 x8_2 ∧ Aside0 (impl_ReadIns.l0 kq (a0.extract (a1 : Int).toNat a0.size) t270 x8_2 (wrap64 (bt (a0.extract (a1 : Int).toNat a0.size) 0)) false x270002_2 = some (r1, r2, r3, r4)) ∧ Aside0 (kq ≤ kj18) ∧ Aside0 (w'.heap[gb267]? = some (.cells #[.int .i64 0, .bool false, .int .i64 0] 30 (0, 0))) ∧ Aside0 (w'.heap[gb269]? = some (.cells #[.int .i64 (wrap64 (bt (a0.extract (a1 : Int).toNat a0.size) 0)), .bool false, .int .i64 x270002_2] 30 (0, 0))) ∧ Aside0 (Below w.heap.size w w'))
         case atStart => exact ⟨(wrap64 (t270 - 1)), (0), q68_, H', ⟨Nat.le_refl _⟩, ⟨q57_⟩, ⟨q58_⟩, ⟨q26_⟩⟩
         case round =>
          clear H'
          try clear c1
          try clear p1 p1
          try clear q1 q1
          try clear hx1
          try clear qi1
          try clear c2
          try clear p2 p2
          try clear c4
          try clear c5
          try clear c5b0
          try clear c5b1
          try clear c6
          try clear c6b0
          try clear c6b1
          try clear p6 p6
          try clear c7
          try clear c7b0
          try clear c7b1
          try clear p8 p8
          try clear q8 q8
          try clear hx8
          try clear qi8
          try clear c9
          try clear c9b0
          try clear c9b1
          try clear c10
          try clear c10b0
          try clear c10b1
          try clear c13
          try clear c13b0
          try clear c13b1
          try clear p14 p14
          try clear q14 q14
          try clear hx14
          try clear qi14
          try clear p17 p17
          try clear q17 q17
          try clear hx17
          try clear qi17
          try clear c22
          try clear c25
          try clear c25b0
          try clear c25b1
          try clear c26
          try clear c27
          try clear hcz12_0 hcz12_1 hcz12_2
          try clear hcz16_0 hcz16_1 hcz16_2
          try clear hcz23_0 hcz23_1 hcz23_2
          try clear hcz28_0 hcz28_1 hcz28_2
          try clear hfz12_0 hfz12_1 hfz12_2
          try clear hfz16_0 hfz16_1 hfz16_2
          try clear hfz23_0 hfz23_1 hfz23_2
          try clear hfz28_0 hfz28_1 hfz28_2
          obtain ⟨x8_2, x270002_2, rfl, HA, HK2, BK267, BK269, HB⟩ := hrel
          cases gk with
          | zero => exact absurd HA.out (by simp [impl_ReadIns.l0])
          | succ k2 =>
           have H := HA.out
           clear HA
           simp only [impl_ReadIns.l0] at H
           by_cases c29 : x8_2 > 0
           ·rw [if_pos c29] at H
            have c29b0 : decide (0 < x8_2) = true := decide_eq_true c29
            clear c29
            by_cases c30 : 0 ≤ x8_2
            ·rw [if_pos c30] at H
             have c30b0 : decide (0 ≤ x8_2) = true := decide_eq_true c30
             clear c30
             by_cases c31 : x8_2 < ((a0.extract (a1 : Int).toNat a0.size).size : Int)
             ·rw [if_pos c31] at H
              have c31b0 : decide (x8_2 < ((a0.extract (a1 : Int).toNat a0.size).size : Int)) = true := decide_eq_true c31
              (try (have c31b0e := c31b0; simp only [ByteArray.size_append, ByteArray.size_extract, Nat.min_self, Nat.sub_zero] at c31b0e))
              (try (first | (have c31b0p := eq_true (of_decide_eq_true c31b0e)) | (have c31b0p := eq_false (of_decide_eq_false c31b0e))))
              clear c31
              have H' := Aside0.mk H
              clear H
              try go_wp2
              have n0_ := Aside0.mk (blk_drew BK267.out)
              have n1_ := Aside0.mk (blk_drew BK269.out)
              have n2_ := Aside0.mk (below_drew1 HB.out)
              clear BK267
              clear BK269
              clear HB
              have BK267 := n0_
              have BK269 := n1_
              have HB := n2_
              clear n0_ n1_ n2_
              have p32 : 0 ≤ (x8_2 : Int) := of_decide_eq_true q82_
              have q32 : x8_2 < ((a0.extract (a1 : Int).toNat a0.size).size : Int) := of_decide_eq_true q82_
              have hx32 := bt_at (a0.extract (a1 : Int).toNat a0.size) x8_2
              replace p32 := eq_true p32
              replace q32 := eq_true q32
              refine start_ (n := 10) (S := fun w' => w'.cell? ⟨gb269, 0, none⟩ = some (.int .i64 (wrap64 (bt (a0.extract (a1 : Int).toNat a0.size) 0))) ∧ w'.cell? ⟨gb269, 1, none⟩ = some (.bool false) ∧ w'.cell? ⟨gb269, 2, none⟩ = some (.int .i64 x270002_2)) (ds := [9]) #[false, false, false, false, false, false, false, false, false, false] (by kernel_rfl) rfl rfl ⟨(blk_cell BK269.out 0).trans rfl, (blk_cell BK269.out 1).trans rfl, (blk_cell BK269.out 2).trans rfl⟩ (fun hHeld => ?_); refine with_tabW impl_ReadIns.tab15 impl_ReadIns.bits15 (fun HT_ HW_ => ?_)
              generalize wr.drew = w33 at BK267 BK269 HB hHeld ⊢
              refine pure_ (i := 0) (N := some 52) (v := ?_) (a' := ?_) #[true, false, false, false, false, false, false, false, false, false] rfl rfl (any_of HT_.out (by kernel_rfl)) (fun _ _ _ h => h) (Or.inl ⟨by rfl, ?_⟩) ?_ ?_
              rotate_left
              ·intro w'
               go_simp
               with_reducible rfl
              rotate_left
              ·simp only [Act.put, List.setIfInBounds_toArray, List.set_cons_zero, List.set_cons_succ, i64_w, i32_w]
               rfl
              refine pure_ (i := 3) (N := some 55) (v := ?_) (a' := ?_) #[true, false, false, true, false, false, false, false, false, false] rfl rfl (any_of HT_.out (by kernel_rfl)) (fun _ _ _ h => h) (Or.inl ⟨by rfl, ?_⟩) ?_ ?_
              rotate_left
              ·intro w'
               go_simp
               with_reducible rfl
              rotate_left
              ·simp only [Act.put, List.setIfInBounds_toArray, List.set_cons_zero, List.set_cons_succ, i64_w, i32_w]
               rfl
              refine pure_ (i := 4) (N := some 56) (v := ?_) (a' := ?_) #[true, false, false, true, true, false, false, false, false, false] rfl rfl (any_of HT_.out (by kernel_rfl)) (fun _ _ _ h => h) (Or.inl ⟨by rfl, ?_⟩) ?_ ?_
              rotate_left
              ·intro w'
               go_simp
               with_reducible rfl
              rotate_left
              ·simp only [Act.put, List.setIfInBounds_toArray, List.set_cons_zero, List.set_cons_succ, i64_w, i32_w]
               rfl
              refine take_ (i := 1) (N := some 53) (v := ?_) (a' := ?_) #[true, true, false, true, true, false, false, false, false, false] rfl rfl (take_ofW HT_.out HW_.out (by kernel_rfl)) (fun _ _ _ h => h) (Or.inl ⟨by rfl, ?_⟩) hHeld ?_ ?_
              rotate_left
              ·rintro w' ⟨s0, s1, s2⟩
               go_simp
               with_reducible rfl
              rotate_left
              ·simp only [Act.put, List.setIfInBounds_toArray, List.set_cons_zero, List.set_cons_succ, i64_w, i32_w]
               rfl
              refine pure_ (i := 2) (N := some 54) (v := ?_) (a' := ?_) #[true, true, true, true, true, false, false, false, false, false] rfl rfl (any_of HT_.out (by kernel_rfl)) (fun _ _ _ h => h) (Or.inl ⟨by rfl, ?_⟩) ?_ ?_
              rotate_left
              ·intro w'
               go_simp
               with_reducible rfl
              rotate_left
              ·simp only [Act.put, List.setIfInBounds_toArray, List.set_cons_zero, List.set_cons_succ, i64_w, i32_w]
               rfl
              refine take_ (i := 5) (N := some 57) (v := ?_) (a' := ?_) #[true, true, true, true, true, true, false, false, false, false] rfl rfl (take_ofW HT_.out HW_.out (by kernel_rfl)) (fun _ _ _ h => h) (Or.inl ⟨by rfl, ?_⟩) hHeld ?_ ?_
              rotate_left
              ·rintro w' ⟨s0, s1, s2⟩
               go_simp
               with_reducible rfl
              rotate_left
              ·simp only [Act.put, List.setIfInBounds_toArray, List.set_cons_zero, List.set_cons_succ, i64_w, i32_w]
               rfl
              refine pure_ (i := 6) (N := some 58) (v := ?_) (a' := ?_) #[true, true, true, true, true, true, true, false, false, false] rfl rfl (any_of HT_.out (by kernel_rfl)) (fun _ _ _ h => h) (Or.inl ⟨by rfl, ?_⟩) ?_ ?_
              rotate_left
              ·intro w'
               go_simp
               with_reducible rfl
              rotate_left
              ·simp only [Act.put, List.setIfInBounds_toArray, List.set_cons_zero, List.set_cons_succ, i64_w, i32_w]
               rfl
              refine pure_ (i := 7) (N := some 59) (v := ?_) (a' := ?_) #[true, true, true, true, true, true, true, true, false, false] rfl rfl (any_of HT_.out (by kernel_rfl)) (fun _ _ _ h => h) (Or.inl ⟨by rfl, ?_⟩) ?_ ?_
              rotate_left
              ·intro w'
               go_simp
               with_reducible rfl
              rotate_left
              ·simp only [Act.put, List.setIfInBounds_toArray, List.set_cons_zero, List.set_cons_succ, i64_w, i32_w]
               rfl
              refine pure_ (i := 8) (N := some 60) (v := ?_) (a' := ?_) #[true, true, true, true, true, true, true, true, true, false] rfl rfl (any_of HT_.out (by kernel_rfl)) (fun _ _ _ h => h) (Or.inl ⟨by rfl, ?_⟩) ?_ ?_
              rotate_left
              ·intro w'
               go_simp
               with_reducible rfl
              rotate_left
              ·simp only [Act.put, List.setIfInBounds_toArray, List.set_cons_zero, List.set_cons_succ, i64_w, i32_w]
               rfl
              refine last_ (i := 9) (N := none) #[true, true, true, true, true, true, true, true, true, true] rfl rfl (one_of HT_.out (by kernel_rfl)) (by decide) (fun K hK => ?_)
              have hs34 : w33.cell? ⟨gb269, 2, none⟩ = some (.int .i64 x270002_2) := bz_ BK269 2
              have hfs34 := blk_frozen BK269.out 2
              have hns34_0 := NB267_269.out
              have hms34_0 := NB269_267.out
              refine skip_ (w1 := ?_) (by rfl) rfl ?_ ?_
              rotate_left
              ·go_simp
               rfl
              refine hK.out _ _ ?_
              clear hK K
              refine done_ (done_of HT_.out (by kernel_rfl)) ?_
              try go_wp2
              go_roundg k2
              case measure => have := HJ18.out; have := HK2.out; omega
              case rel => exact ⟨(wrap64 (x8_2 - 1)), (Go.bits .or .i64 (wrap64 (x270002_2 * 256)) (wrap64 (bt (a0.extract (a1 : Int).toNat a0.size) x8_2))), q68_, H', ⟨by have := HJ18.out; have := HK2.out; omega⟩, ⟨by (with_reducible repeat (first | refine blk_drewN ?_ _ | refine blk_drew ?_ | refine blk_alloc ?_ _)); refine blk_far ?_ NB267_269.out _; (with_reducible repeat (first | refine blk_drewN ?_ _ | refine blk_drew ?_ | refine blk_alloc ?_ _)); exact BK267.out⟩, ⟨by (with_reducible repeat (first | refine blk_drewN ?_ _ | refine blk_drew ?_ | refine blk_alloc ?_ _)); refine blk_put (cs := #[.int .i64 (wrap64 (bt (a0.extract (a1 : Int).toNat a0.size) 0)), .bool false, .int .i64 x270002_2]) ?_ 2 _ rfl; (with_reducible repeat (first | refine blk_drewN ?_ _ | refine blk_drew ?_ | refine blk_alloc ?_ _)); exact BK269.out⟩, ⟨q26_⟩⟩
             ·rw [if_neg c31] at H
              exact absurd H (by simp)
            ·rw [if_neg c30] at H
             exact absurd H (by simp)
           ·rw [if_neg c29] at H
            have c29b0 : decide (0 < x8_2) = false := decide_eq_false c29
            clear c29
            simp only [Option.some.injEq, Prod.mk.injEq] at H
            obtain ⟨rfl, rfl, rfl, rfl⟩ := H
            have hnb35 := NB269_267.out
            have hnc35 := NB267_269.out
            have hcz36_0 : wr.cell? ⟨gb269, 0, none⟩ = some (.int .i64 (wrap64 (bt (a0.extract (a1 : Int).toNat a0.size) 0))) := bz_ BK269 0
            have hcz36_1 : wr.cell? ⟨gb269, 1, none⟩ = some (.bool false) := bz_ BK269 1
            have hcz36_2 : wr.cell? ⟨gb269, 2, none⟩ = some (.int .i64 x270002_2) := bz_ BK269 2
            have hfz36_0 := blk_frozen BK269.out 0
            have hfz36_1 := blk_frozen BK269.out 1
            have hfz36_2 := blk_frozen BK269.out 2
            have hcz37_0 : wr.cell? ⟨gb267, 0, none⟩ = some (.int .i64 0) := bz_ BK267 0
            have hcz37_1 : wr.cell? ⟨gb267, 1, none⟩ = some (.bool false) := bz_ BK267 1
            have hcz37_2 : wr.cell? ⟨gb267, 2, none⟩ = some (.int .i64 0) := bz_ BK267 2
            have hfz37_0 := blk_frozen BK267.out 0
            have hfz37_1 := blk_frozen BK267.out 1
            have hfz37_2 := blk_frozen BK267.out 2
            go_wp2
            refine bodyPost_ret (results_ct rfl _ _ gb267 30 #[.int .i64 (wrap64 (bt (a0.extract (a1 : Int).toNat a0.size) 0)), .bool false, .int .i64 x270002_2] (0, 0) _ rfl (by (with_reducible repeat (first | refine blk_drewN ?_ _ | refine blk_drew ?_ | refine blk_alloc ?_ _)); refine blk_put (cs := #[.int .i64 (wrap64 (bt (a0.extract (a1 : Int).toNat a0.size) 0)), .bool false, .int .i64 0]) ?_ 2 _ rfl; (with_reducible repeat (first | refine blk_drewN ?_ _ | refine blk_drew ?_ | refine blk_alloc ?_ _)); refine blk_put (cs := #[.int .i64 (wrap64 (bt (a0.extract (a1 : Int).toNat a0.size) 0)), .bool false, .int .i64 0]) ?_ 1 _ rfl; (with_reducible repeat (first | refine blk_drewN ?_ _ | refine blk_drew ?_ | refine blk_alloc ?_ _)); refine blk_put (cs := #[.int .i64 0, .bool false, .int .i64 0]) ?_ 0 _ rfl; (with_reducible repeat (first | refine blk_drewN ?_ _ | refine blk_drew ?_ | refine blk_alloc ?_ _)); exact BK267.out) Tryz.underlying30 rfl (by kernel_rfl)) rfl ?_
            exact ⟨q54_, q26_⟩
    ·rw [if_neg c7] at H
     exact absurd H (by simp)
   ·rw [if_neg c6] at H
    exact absurd H (by simp)
  ·rw [if_neg c5] at H
   exact absurd H (by simp)
 ·replace c4 := Bool.eq_false_iff.mpr c4
  subst c4
  replace H : (some (0, false, 0, 0)) = some (r1, r2, r3, r4) := by rw [if_neg (show ¬ (false = true) by decide)] at H; exact H
  simp only [Option.some.injEq, Prod.mk.injEq] at H
  obtain ⟨rfl, rfl, rfl, rfl⟩ := H
  go_enter Tryz.func22, Tryz.ntmps22
  go_wp2_with (first | ((with_reducible refine gate_dst (N := 4) rfl ?_); (try (refine gate_guard (by rfl) ?_; dsimp only)); refine box_event ?hg (N := 4) ?hd (cs := #[.int .i64 0, .bool false, .int .i64 0]) (t := 30) ?hr ?_; (case hd => rfl); (case hg => rfl); (case hr => exact q111_); intro gb267 hg w38 hbox hb; have n0_ := Aside0.mk (below_step q52_ hb); have n1_ := Aside0.mk (hbox); have n2_ := Aside0.mk ((q36_ : w.heap.size ≤ gb267)); have n3_ := Aside0.mk ((q36_ : w.heap.size ≤ gb267)); clear HB; have HB := n0_; have BK267 := n1_; have GW267 := n2_; have GE267 := n3_; clear n0_ n1_ n2_ n3_; clear hb hbox hg) | ((with_reducible refine gate_callee (f := 61) rfl ?_); refine goesL_ (some 13) rfl rfl Tryz.func61 (by kernel_rfl) rfl #[.int .i64 a1, .int .i64 0, .int .i64 (wrap64 ((a0.size : Int) - 1))] rfl q7_ ?_; (with_reducible refine (impl_within.calls a1 0 (wrap64 ((a0.size : Int) - 1)) false _ A3.out).mono ?_); rintro e w' ⟨rfl, ⟨nd, rfl⟩⟩; refine ⟨_, rfl, ?_⟩; (try (rw [drewN_self w38]; generalize hq_ : World.drewN w38 _ = w38; have n0_ : Aside0 (w38.heap[gb267]? = some (.cells #[.int .i64 0, .bool false, .int .i64 0] 30 (0, 0))) := ⟨q49_⟩; have n1_ : Aside0 (Below w.heap.size w w38) := ⟨q29_⟩; clear BK267 HB hq_; have BK267 := n0_; have HB := n1_; clear n0_ n1_)); have hcz39_0 : w38.cell? ⟨gb267, 0, none⟩ = some (.int .i64 0) := (blk_cell BK267.out 0).trans rfl; have hcz39_1 : w38.cell? ⟨gb267, 1, none⟩ = some (.bool false) := (blk_cell BK267.out 1).trans rfl; have hcz39_2 : w38.cell? ⟨gb267, 2, none⟩ = some (.int .i64 0) := (blk_cell BK267.out 2).trans rfl; have hfz39_0 := blk_frozen BK267.out 0; have hfz39_1 := blk_frozen BK267.out 1; have hfz39_2 := blk_frozen BK267.out 2))
  refine bodyPost_ret (results_ct rfl _ _ gb267 30 #[.int .i64 0, .bool false, .int .i64 0] (0, 0) _ rfl q1_ Tryz.underlying30 rfl (by kernel_rfl)) rfl ?_
  exact ⟨q54_, q39_⟩
def spec_l1In.f (a0 : Int) (a1 : Int) (a2 : Int) : Option (Bool) := if a0 ≥ a1 then (some (decide (a0 ≤ a2))) else (some false)
theorem spec_l1In.calls (a0 : Int) (a1 : Int) (a2 : Int) (r : Bool) (w : World) (h : spec_l1In.f a0 a1 a2 = some r) :
  Calls Tryz.prog 51 #[.int .i64 a0, .int .i64 a1, .int .i64 a2] w fun e w' => e = .returned (.bool r) ∧ Drawn0 w w' := by
 have H : (if a0 ≥ a1 then (some (decide (a0 ≤ a2))) else (some false)) = some r := h
 clear h
 by_cases c4 : a0 ≥ a1
 ·rw [if_pos c4] at H
  have c4b0 : decide (a1 ≤ a0) = true := decide_eq_true c4
  clear c4
  obtain rfl := Option.some.inj H
  go_enter Tryz.func51, Tryz.ntmps51
  go_wp2
  go_ret
  exact ⟨q68_, q81_⟩
 ·rw [if_neg c4] at H
  have c4b0 : decide (a1 ≤ a0) = false := decide_eq_false c4
  clear c4
  obtain rfl := Option.some.inj H
  go_enter Tryz.func51, Tryz.ntmps51
  go_wp2
  go_ret
  exact ⟨q68_, q81_⟩
mutual
def spec_l3Hole.l0 : Nat → ByteArray → List ByteArray → Int → Option (Int × ByteArray)
 | 0, _, _, _ => none
 | k + 1, x0, x4, x5 => if x5 < (x4.length : Int) then (spec_l3Hole.l1 k x0 x4 x5 0) else (some ((-1), (⟨#[]⟩ : ByteArray)))
def spec_l3Hole.l1 : Nat → ByteArray → List ByteArray → Int → Int → Option (Int × ByteArray)
 | 0, _, _, _, _ => none
 | k + 1, x0, x4, x5, x6 => if 0 ≤ x5 then (if x5 < (x4.length : Int) then (if (wrap64 (x6 + ((rdOf ByteArray.empty x4 x5).size : Int))) ≤ (x0.size : Int) then (if 0 ≤ x6 then (if x6 ≤ (wrap64 (x6 + ((rdOf ByteArray.empty x4 x5).size : Int))) then (if (x0.extract (x6 : Int).toNat ((wrap64 (x6 + ((rdOf ByteArray.empty x4 x5).size : Int))) : Int).toNat).toList = (rdOf ByteArray.empty x4 x5).toList then (some (x6, rdOf ByteArray.empty x4 x5)) else (spec_l3Hole.l1 k x0 x4 x5 (wrap64 (x6 + 1)))) else (none)) else (none)) else (spec_l3Hole.l0 k x0 x4 (wrap64 (x5 + 1)))) else (none)) else (none)
end
def spec_l3Hole.f (k : Nat) (a0 : ByteArray) : Option (Int × ByteArray) := spec_l3Hole.l0 k a0 (([(⟨#[110, 49, 54]⟩ : ByteArray), (⟨#[110, 56]⟩ : ByteArray), (⟨#[101, 56]⟩ : ByteArray)] : List ByteArray)) 0
theorem spec_l3Hole.mono_l : ∀ k, (∀ y0 y1 y2, LeO (spec_l3Hole.l0 k y0 y1 y2) (spec_l3Hole.l0 (k + 1) y0 y1 y2)) ∧ (∀ y0 y1 y2 y3, LeO (spec_l3Hole.l1 k y0 y1 y2 y3) (spec_l3Hole.l1 (k + 1) y0 y1 y2 y3))
 | 0 => ⟨fun _ _ _ r h => by simp [spec_l3Hole.l0] at h, fun _ _ _ _ r h => by simp [spec_l3Hole.l1] at h⟩
 | k + 1 => by
  obtain ⟨ih0, ih1⟩ := spec_l3Hole.mono_l k
  refine ⟨?_, ?_⟩
  ·intro y0 y1 y2
   unfold spec_l3Hole.l0
   repeat' first
   | (with_reducible first | exact ih0 _ _ _ | exact ih1 _ _ _ _ | exact LeO.refl _ | exact LeO.none _ | refine LeO.ite ?_ ?_ | refine LeO.bind ?_ (fun _ => ?_))
   | exact ih0 _ _ _
   | exact ih1 _ _ _ _
   | exact LeO.none _
   | refine LeO.ite ?_ ?_
   | refine LeO.bind ?_ (fun _ => ?_)
  ·intro y0 y1 y2 y3
   unfold spec_l3Hole.l1
   repeat' first
   | (with_reducible first | exact ih0 _ _ _ | exact ih1 _ _ _ _ | exact LeO.refl _ | exact LeO.none _ | refine LeO.ite ?_ ?_ | refine LeO.bind ?_ (fun _ => ?_))
   | exact ih0 _ _ _
   | exact ih1 _ _ _ _
   | exact LeO.none _
   | refine LeO.ite ?_ ?_
   | refine LeO.bind ?_ (fun _ => ?_)
theorem spec_l3Hole.mono : ∀ a0 k, LeO (spec_l3Hole.f k a0) (spec_l3Hole.f (k + 1) a0) := by
 intro a0 k
 obtain ⟨ih0, ih1⟩ := spec_l3Hole.mono_l k
 unfold spec_l3Hole.f
 repeat' first
   | (with_reducible first | exact ih0 _ _ _ | exact ih1 _ _ _ _ | exact LeO.refl _ | exact LeO.none _ | refine LeO.ite ?_ ?_ | refine LeO.bind ?_ (fun _ => ?_))
   | exact ih0 _ _ _
   | exact ih1 _ _ _ _
   | exact LeO.none _
   | refine LeO.ite ?_ ?_
   | refine LeO.bind ?_ (fun _ => ?_)
theorem spec_l3Hole.calls (k : Nat) (a0 : ByteArray) (r1 : Int) (r2 : ByteArray) (w : World) (h : spec_l3Hole.f k a0 = some (r1, r2)) :
  Calls Tryz.prog 59 #[.string a0] w fun e w' => e = .returned (.tuple #[.int .i64 r1, .string r2]) ∧ Below w.heap.size w w' := by
 have HB := Aside0.mk (Below.refl w.heap.size w)
 have H : (spec_l3Hole.l0 k a0 (([(⟨#[110, 49, 54]⟩ : ByteArray), (⟨#[110, 56]⟩ : ByteArray), (⟨#[101, 56]⟩ : ByteArray)] : List ByteArray)) 0) = some (r1, r2) := h
 clear h
 obtain ⟨y271, hy271⟩ : ∃ y_ : List ByteArray, y_ = (([(⟨#[110, 49, 54]⟩ : ByteArray), (⟨#[110, 56]⟩ : ByteArray), (⟨#[101, 56]⟩ : ByteArray)] : List ByteArray)) := ⟨_, rfl⟩
 replace H : (spec_l3Hole.l0 k a0 y271 0) = some (r1, r2) := by first | (rw [hy271]; with_reducible exact H) | (have H2_ := (Option.bind_some _ _).symm.trans H; rw [hy271]; with_reducible exact H2_) | (have H2_ := (Option.bind_some _ _).symm.trans H; with_reducible exact H2_) | with_reducible exact H | (rw [hy271]; exact H) | exact H
 have Ny271 := Aside0.mk hy271
 clear hy271
 have H' := Aside0.mk H
 clear H
 go_enter Tryz.func59, Tryz.ntmps59
 go_wp2_with (first | ((with_reducible refine gate_dst (N := 7) rfl ?_); refine Kd.R_lit Kd.string _ 9 ?hg (N := 7) ?hd (xs := ([(⟨#[110, 49, 54]⟩ : ByteArray), (⟨#[110, 56]⟩ : ByteArray), (⟨#[101, 56]⟩ : ByteArray)] : List ByteArray)) (inner := [.string (⟨#[110, 49, 54]⟩ : ByteArray), .string (⟨#[110, 56]⟩ : ByteArray), .string (⟨#[101, 56]⟩ : ByteArray)]) (ok := fun _ => True) (okp := fun _ => True) ?hr ?hp (fun _ hk => hk) trivial (Below.refl _ _) (Nat.le_refl _) (by simp) ?_; (case hd => rfl); (case hg => rfl); (case hr => exact q111_); (case hp => exact q101_); intro v272 w2 ho3 hb hg_ hnew_; clear hg_ hnew_; (first | rw [← Ny271.out] at ho3 | (simp only [Int.reduceToNat] at ho3; rw [← Ny271.out] at ho3)); have n0_ := Aside0.mk (Kd.R_lower ho3 (below_size q52_)); have n1_ := Aside0.mk (below_step q52_ hb); clear HB; have HO273 := n0_; have HB := n1_; clear n0_ n1_; clear hb ho3))
 repeat (go_quiet (first | ((with_reducible refine gate_dst (N := 7) rfl ?_); refine Kd.R_lit Kd.string _ 9 ?hg (N := 7) ?hd (xs := ([(⟨#[110, 49, 54]⟩ : ByteArray), (⟨#[110, 56]⟩ : ByteArray), (⟨#[101, 56]⟩ : ByteArray)] : List ByteArray)) (inner := [.string (⟨#[110, 49, 54]⟩ : ByteArray), .string (⟨#[110, 56]⟩ : ByteArray), .string (⟨#[101, 56]⟩ : ByteArray)]) (ok := fun _ => True) (okp := fun _ => True) ?hr ?hp (fun _ hk => hk) trivial (Below.refl _ _) (Nat.le_refl _) (by simp) ?_; (case hd => rfl); (case hg => rfl); (case hr => exact q111_); (case hp => exact q101_); intro v272 w2 ho3 hb hg_ hnew_; clear hg_ hnew_; (first | rw [← Ny271.out] at ho3 | (simp only [Int.reduceToNat] at ho3; rw [← Ny271.out] at ho3)); have n0_ := Aside0.mk (Kd.R_lower ho3 (below_size q52_)); have n1_ := Aside0.mk (below_step q52_ hb); clear HB; have HO273 := n0_; have HB := n1_; clear n0_ n1_; clear hb ho3)); try go_wp2_with (first | ((with_reducible refine gate_dst (N := 7) rfl ?_); refine Kd.R_lit Kd.string _ 9 ?hg (N := 7) ?hd (xs := ([(⟨#[110, 49, 54]⟩ : ByteArray), (⟨#[110, 56]⟩ : ByteArray), (⟨#[101, 56]⟩ : ByteArray)] : List ByteArray)) (inner := [.string (⟨#[110, 49, 54]⟩ : ByteArray), .string (⟨#[110, 56]⟩ : ByteArray), .string (⟨#[101, 56]⟩ : ByteArray)]) (ok := fun _ => True) (okp := fun _ => True) ?hr ?hp (fun _ hk => hk) trivial (Below.refl _ _) (Nat.le_refl _) (by simp) ?_; (case hd => rfl); (case hg => rfl); (case hr => exact q111_); (case hp => exact q101_); intro v272 w2 ho3 hb hg_ hnew_; clear hg_ hnew_; (first | rw [← Ny271.out] at ho3 | (simp only [Int.reduceToNat] at ho3; rw [← Ny271.out] at ho3)); have n0_ := Aside0.mk (Kd.R_lower ho3 (below_size q52_)); have n1_ := Aside0.mk (below_step q52_ hb); clear HB; have HO273 := n0_; have HB := n1_; clear n0_ n1_; clear hb ho3)))
 go_loopg [5] k (fun kq v5 w' => ∃ (x5_1 : Int), v5 = .int .i64 x5_1 ∧ Aside0 (spec_l3Hole.l0 kq a0 y271 x5_1 = some (r1, r2)) ∧ Aside0 (kq ≤ k) ∧ Aside0 (Kd.R Kd.string 9 w' w.heap.size (fun _ => True) v272 y271) ∧ Aside0 (Below w.heap.size w w'))
 case atStart => exact ⟨(0), q68_, H', ⟨Nat.le_refl _⟩, ⟨by (with_reducible repeat (first | apply Kd.R_alloc | apply Kd.R_drewN | apply Kd.R_drew)); exact HO273.out⟩, ⟨q52_⟩⟩
 case round =>
  clear H'
  try clear p2
  obtain ⟨x5_1, rfl, HA, HK1, HO_4, HB⟩ := hrel
  cases gk with
  | zero => exact absurd HA.out (by simp [spec_l3Hole.l0])
  | succ k1 =>
   have H := HA.out
   clear HA
   simp only [spec_l3Hole.l0] at H
   by_cases c4 : x5_1 < (y271.length : Int)
   ·rw [if_pos c4] at H
    have c4b0 : decide (x5_1 < (y271.length : Int)) = true := decide_eq_true c4
    clear c4
    have H' := Aside0.mk H
    clear H
    obtain ⟨Ao5, co5, eo5⟩ := Kd.R_slice HO_4.out
    subst eo5
    go_wp2
    repeat (go_quiet (fail); try go_wp2)
    go_loopg [6] k1 (fun kq v6 w' => ∃ (x6_2 : Int), v6 = .int .i64 x6_2 ∧ Aside0 (spec_l3Hole.l1 kq a0 y271 x5_1 x6_2 = some (r1, r2)) ∧ Aside0 (kq ≤ k1) ∧ Aside0 (Kd.R Kd.string 9 w' w.heap.size (fun _ => True) (.slice Ao5 y271.length co5) y271) ∧ Aside0 (Below w.heap.size w w'))
    case atStart => exact ⟨(0), q68_, H', ⟨Nat.le_refl _⟩, ⟨q80_⟩, ⟨q52_⟩⟩
    case round =>
     clear H'
     try clear p2 p2
     try clear c4
     try clear c4b0
     try clear c5
     obtain ⟨x6_2, rfl, HA, HK2, HO_4, HB⟩ := hrel
     cases gk with
     | zero => exact absurd HA.out (by simp [spec_l3Hole.l1])
     | succ k2 =>
      have H := HA.out
      clear HA
      simp only [spec_l3Hole.l1] at H
      by_cases c6 : 0 ≤ x5_1
      ·rw [if_pos c6] at H
       have c6b0 : decide (0 ≤ x5_1) = true := decide_eq_true c6
       clear c6
       by_cases c7 : x5_1 < (y271.length : Int)
       ·rw [if_pos c7] at H
        have c7b0 : decide (x5_1 < (y271.length : Int)) = true := decide_eq_true c7
        clear c7
        by_cases c8 : (wrap64 (x6_2 + ((rdOf ByteArray.empty y271 x5_1).size : Int))) ≤ (a0.size : Int)
        ·rw [if_pos c8] at H
         have c8b0 : decide ((wrap64 (x6_2 + ((rdOf ByteArray.empty y271 x5_1).size : Int))) ≤ (a0.size : Int)) = true := decide_eq_true c8
         clear c8
         by_cases c9 : 0 ≤ x6_2
         ·rw [if_pos c9] at H
          have c9b0 := eq_true c9
          have c9b1 : decide (0 ≤ x6_2) = true := decide_eq_true c9
          clear c9
          by_cases c10 : x6_2 ≤ (wrap64 (x6_2 + ((rdOf ByteArray.empty y271 x5_1).size : Int)))
          ·rw [if_pos c10] at H
           have c10b0 := eq_true c10
           have c10b1 : decide (x6_2 ≤ (wrap64 (x6_2 + ((rdOf ByteArray.empty y271 x5_1).size : Int)))) = true := decide_eq_true c10
           have c11b0 := eq_true (of_decide_eq_true q82_ : (wrap64 (x6_2 + ((rdOf ByteArray.empty y271 x5_1).size : Int))) ≤ (a0.size : Int))
           by_cases c12 : (a0.extract (x6_2 : Int).toNat ((wrap64 (x6_2 + ((rdOf ByteArray.empty y271 x5_1).size : Int))) : Int).toNat).toList = (rdOf ByteArray.empty y271 x5_1).toList
           ·rw [if_pos c12] at H
            have c12b0 : ((a0.extract (x6_2 : Int).toNat ((wrap64 (x6_2 + ((rdOf ByteArray.empty y271 x5_1).size : Int))) : Int).toNat).toList == (rdOf ByteArray.empty y271 x5_1).toList) = true := beq_iff_eq.mpr c12
            have c12b1 : ((a0.extract (x6_2 : Int).toNat ((wrap64 (x6_2 + ((rdOf ByteArray.empty y271 x5_1).size : Int))) : Int).toNat).toList != (rdOf ByteArray.empty y271 x5_1).toList) = false := bne_eq_false_iff_eq.mpr c12
            clear c12
            simp only [Option.some.injEq, Prod.mk.injEq] at H
            obtain ⟨rfl, rfl⟩ := H
            have p274 : 0 ≤ (x5_1 : Int) := of_decide_eq_true q82_
            have q274 : x5_1 < (y271.length : Int) := of_decide_eq_true q82_
            obtain ⟨ad274, e274, hx274_0⟩ := Kd.at_string (Kd.R_reads' HO_4.out).2.2 x5_1 p274 q274
            cases e274
            replace p274 := eq_true p274
            replace q274 := eq_true q274
            have p275 : 0 ≤ (x5_1 : Int) := of_decide_eq_true q82_
            have q275 : x5_1 < (y271.length : Int) := of_decide_eq_true q82_
            obtain ⟨ad275, e275, hx275_0⟩ := Kd.at_string (Kd.R_reads' HO_4.out).2.2 x5_1 p275 q275
            obtain rfl : ad274 = ad275 := (by injection e275)
            replace p275 := eq_true p275
            replace q275 := eq_true q275
            have p276 : 0 ≤ (x5_1 : Int) := of_decide_eq_true q82_
            have q276 : x5_1 < (y271.length : Int) := of_decide_eq_true q82_
            obtain ⟨ad276, e276, hx276_0⟩ := Kd.at_string (Kd.R_reads' HO_4.out).2.2 x5_1 p276 q276
            obtain rfl : ad274 = ad276 := (by injection e276)
            replace p276 := eq_true p276
            replace q276 := eq_true q276
            have p277 : 0 ≤ (x5_1 : Int) := of_decide_eq_true q82_
            have q277 : x5_1 < (y271.length : Int) := of_decide_eq_true q82_
            obtain ⟨ad277, e277, hx277_0⟩ := Kd.at_string (Kd.R_reads' HO_4.out).2.2 x5_1 p277 q277
            obtain rfl : ad274 = ad277 := (by injection e277)
            replace p277 := eq_true p277
            replace q277 := eq_true q277
            go_wp2
            repeat (go_quiet (fail); try go_wp2)
            go_ret2
            exact ⟨q54_, q52_⟩
           ·rw [if_neg c12] at H
            have c12b0 : ((a0.extract (x6_2 : Int).toNat ((wrap64 (x6_2 + ((rdOf ByteArray.empty y271 x5_1).size : Int))) : Int).toNat).toList == (rdOf ByteArray.empty y271 x5_1).toList) = false := beq_eq_false_iff_ne.mpr c12
            have c12b1 : ((a0.extract (x6_2 : Int).toNat ((wrap64 (x6_2 + ((rdOf ByteArray.empty y271 x5_1).size : Int))) : Int).toNat).toList != (rdOf ByteArray.empty y271 x5_1).toList) = true := bne_iff_ne.mpr c12
            have H' := Aside0.mk H
            clear H
            have p274 : 0 ≤ (x5_1 : Int) := of_decide_eq_true q82_
            have q274 : x5_1 < (y271.length : Int) := of_decide_eq_true q82_
            obtain ⟨ad274, e274, hx274_0⟩ := Kd.at_string (Kd.R_reads' HO_4.out).2.2 x5_1 p274 q274
            cases e274
            replace p274 := eq_true p274
            replace q274 := eq_true q274
            have p275 : 0 ≤ (x5_1 : Int) := of_decide_eq_true q82_
            have q275 : x5_1 < (y271.length : Int) := of_decide_eq_true q82_
            obtain ⟨ad275, e275, hx275_0⟩ := Kd.at_string (Kd.R_reads' HO_4.out).2.2 x5_1 p275 q275
            obtain rfl : ad274 = ad275 := (by injection e275)
            replace p275 := eq_true p275
            replace q275 := eq_true q275
            have p276 : 0 ≤ (x5_1 : Int) := of_decide_eq_true q82_
            have q276 : x5_1 < (y271.length : Int) := of_decide_eq_true q82_
            obtain ⟨ad276, e276, hx276_0⟩ := Kd.at_string (Kd.R_reads' HO_4.out).2.2 x5_1 p276 q276
            obtain rfl : ad274 = ad276 := (by injection e276)
            replace p276 := eq_true p276
            replace q276 := eq_true q276
            go_wp2
            repeat (go_quiet (fail); try go_wp2)
            go_roundg k2
            case measure => have := HK1.out; have := HK2.out; omega
            case rel => exact ⟨(wrap64 (x6_2 + 1)), q68_, H', ⟨by have := HK1.out; have := HK2.out; omega⟩, ⟨q80_⟩, ⟨q52_⟩⟩
          ·rw [if_neg c10] at H
           exact absurd H (by simp)
         ·rw [if_neg c9] at H
          exact absurd H (by simp)
        ·rw [if_neg c8] at H
         have c8b0 : decide ((wrap64 (x6_2 + ((rdOf ByteArray.empty y271 x5_1).size : Int))) ≤ (a0.size : Int)) = false := decide_eq_false c8
         clear c8
         have H' := Aside0.mk H
         clear H
         have p274 : 0 ≤ (x5_1 : Int) := of_decide_eq_true q82_
         have q274 : x5_1 < (y271.length : Int) := of_decide_eq_true q82_
         obtain ⟨ad274, e274, hx274_0⟩ := Kd.at_string (Kd.R_reads' HO_4.out).2.2 x5_1 p274 q274
         cases e274
         replace p274 := eq_true p274
         replace q274 := eq_true q274
         go_wp2
         repeat (go_quiet (fail); try go_wp2)
         go_roundg k2
         case measure => have := HK1.out; have := HK2.out; omega
         case rel => exact ⟨(wrap64 (x5_1 + 1)), q68_, H', ⟨by have := HK1.out; have := HK2.out; omega⟩, ⟨q80_⟩, ⟨q52_⟩⟩
       ·rw [if_neg c7] at H
        exact absurd H (by simp)
      ·rw [if_neg c6] at H
       exact absurd H (by simp)
   ·rw [if_neg c4] at H
    have c4b0 : decide (x5_1 < (y271.length : Int)) = false := decide_eq_false c4
    clear c4
    simp only [Option.some.injEq, Prod.mk.injEq] at H
    obtain ⟨rfl, rfl⟩ := H
    obtain ⟨Ao13, co13, eo13⟩ := Kd.R_slice HO_4.out
    subst eo13
    go_wp2
    repeat (go_quiet (fail); try go_wp2)
    go_ret2
    exact ⟨q54_, q52_⟩
end Go.Proofs.YtodlnnoekccmmaaGreatDoor.QFnReadIns
