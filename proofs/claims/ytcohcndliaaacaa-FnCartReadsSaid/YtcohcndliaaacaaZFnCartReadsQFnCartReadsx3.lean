/- The machine's side of a law, written by a program of this session for this claim. -/
import Derived.Test.YtcohcndliaaacaaZFnCartReadsQq
import Derived.Test.YtcohcndliaaacaaZFnCartReadsQFnCartReadsx0
import Derived.Test.YtcohcndliaaacaaZFnCartReadsQFnCartReadsx1
import Derived.Test.YtcohcndliaaacaaZFnCartReadsQFnCartReadsx2
namespace Go.Proofs.Ytcohcndliaaacaa.QFnCartReads
open Go.Proofs.Ytcohcndliaaacaa.Qq
open Go.RowKit Go.Proofs.Ytcohcndliaaacaa.LibX Go.Proofs.Ytcohcndliaaacaa.LibC Go.Proofs.YtcohcndliaaacaaW.PrintWords Go.Proofs.YtcohcndliaaacaaW.PrintLast Go.Proofs.YtcohcndliaaacaaW.PrintMore
attribute [local go_sem] max2_int min2_int max_two min_two max_three min_three max_four min_four   -- for this text's walks alone
set_option maxHeartbeats 8000000
set_option maxRecDepth 100000
set_option linter.unusedVariables false
set_option linter.unusedSimpArgs false
mutual
def spec_l5Write.j0 : Nat → Int → Int → Bool → ByteArray → Int → Int → ByteArray → Int → Bool → Int → Option (ByteArray × Int × Int × ByteArray × Int × Bool × Int)
 | 0, _, _, _, _, _, _, _, _, _, _ => none
 | k + 1, x1, x2, x18, x126000, x126001, x126002, x126003, x126004, x126005, x126006 => if x18 = true then (some (x126000, x126001, x2, x126003, x126004, x126005, x126006)) else (if x1 < 256 then (some (x126000, x126001, mx 1 (Int.tmod x2 32), x126003, x126004, x126005, x126006)) else (if x1 < 384 then (some (x126000, x126001, x126002, x126003, Int.tmod x2 4, x126005, x126006)) else (if x1 < 512 then (if x126001 = 1 then (some (x126000, x126001, x126002, x126003, x126004, x126005, Int.tmod x2 2)) else (some (x126000, x126001, x126002, x126003, x126004, x126005, x126006))) else (if x126005 = true then ((spec_l1In.f x1 40960 41023).bind fun t127 => (spec_l5Write.j1 k x1 x2 t127 x126000 x126001 x126002 x126003 x126004 x126005 x126006)) else (spec_l5Write.j1 k x1 x2 false x126000 x126001 x126002 x126003 x126004 x126005 x126006)))))
def spec_l5Write.j1 : Nat → Int → Int → Bool → ByteArray → Int → Int → ByteArray → Int → Bool → Int → Option (ByteArray × Int × Int × ByteArray × Int × Bool × Int)
 | 0, _, _, _, _, _, _, _, _, _, _ => none
 | k + 1, x1, x2, x50, x126000, x126001, x126002, x126003, x126004, x126005, x126006 => if x50 = true then ((spec_l5RamBank.f x126000 x126001 x126002 x126003 x126004 x126005 x126006).bind fun t128 => ((spec_l5Put.f x126003 (wrap64 ((wrap64 ((wrap64 (t128 * 64)) + x1)) - 40960)) x2).bind fun t129 => (some (x126000, x126001, x126002, t129, x126004, x126005, x126006)))) else (some (x126000, x126001, x126002, x126003, x126004, x126005, x126006))
end
def spec_l5Write.f (k : Nat) (a0_0 : ByteArray) (a0_1 : Int) (a0_2 : Int) (a0_3 : ByteArray) (a0_4 : Int) (a0_5 : Bool) (a0_6 : Int) (a1 : Int) (a2 : Int) : Option (ByteArray × Int × Int × ByteArray × Int × Bool × Int) := if a0_1 = 0 then (some (a0_0, a0_1, a0_2, a0_3, a0_4, a0_5, a0_6)) else (if a1 < 128 then (some (a0_0, a0_1, a0_2, a0_3, a0_4, ((Int.tmod a2 16) == 10), a0_6)) else (if a1 < 256 then (spec_l5Write.j0 k a1 a2 (a0_1 == 2) a0_0 a0_1 a0_2 a0_3 a0_4 a0_5 a0_6) else (spec_l5Write.j0 k a1 a2 false a0_0 a0_1 a0_2 a0_3 a0_4 a0_5 a0_6)))
theorem spec_l5Write.mono_l : ∀ k, (∀ y0 y1 y2 y3 y4 y5 y6 y7 y8 y9, LeO (spec_l5Write.j0 k y0 y1 y2 y3 y4 y5 y6 y7 y8 y9) (spec_l5Write.j0 (k + 1) y0 y1 y2 y3 y4 y5 y6 y7 y8 y9)) ∧ (∀ y0 y1 y2 y3 y4 y5 y6 y7 y8 y9, LeO (spec_l5Write.j1 k y0 y1 y2 y3 y4 y5 y6 y7 y8 y9) (spec_l5Write.j1 (k + 1) y0 y1 y2 y3 y4 y5 y6 y7 y8 y9))
 | 0 => ⟨fun _ _ _ _ _ _ _ _ _ _ r h => by simp [spec_l5Write.j0] at h, fun _ _ _ _ _ _ _ _ _ _ r h => by simp [spec_l5Write.j1] at h⟩
 | k + 1 => by
  obtain ⟨ih0, ih1⟩ := spec_l5Write.mono_l k
  refine ⟨?_, ?_⟩
  ·intro y0 y1 y2 y3 y4 y5 y6 y7 y8 y9
   unfold spec_l5Write.j0
   repeat' first
   | (with_reducible first | exact ih0 _ _ _ _ _ _ _ _ _ _ | exact ih1 _ _ _ _ _ _ _ _ _ _ | exact LeO.refl _ | exact LeO.none _ | refine LeO.ite ?_ ?_ | refine LeO.bind ?_ (fun _ => ?_))
   | exact ih0 _ _ _ _ _ _ _ _ _ _
   | exact ih1 _ _ _ _ _ _ _ _ _ _
   | exact LeO.none _
   | refine LeO.ite ?_ ?_
   | refine LeO.bind ?_ (fun _ => ?_)
  ·intro y0 y1 y2 y3 y4 y5 y6 y7 y8 y9
   unfold spec_l5Write.j1
   repeat' first
   | (with_reducible first | exact ih0 _ _ _ _ _ _ _ _ _ _ | exact ih1 _ _ _ _ _ _ _ _ _ _ | exact LeO.refl _ | exact LeO.none _ | refine LeO.ite ?_ ?_ | refine LeO.bind ?_ (fun _ => ?_))
   | exact ih0 _ _ _ _ _ _ _ _ _ _
   | exact ih1 _ _ _ _ _ _ _ _ _ _
   | exact LeO.none _
   | refine LeO.ite ?_ ?_
   | refine LeO.bind ?_ (fun _ => ?_)
theorem spec_l5Write.mono : ∀ a0 a1 a2 a3 a4 a5 a6 a7 a8 k, LeO (spec_l5Write.f k a0 a1 a2 a3 a4 a5 a6 a7 a8) (spec_l5Write.f (k + 1) a0 a1 a2 a3 a4 a5 a6 a7 a8) := by
 intro a0 a1 a2 a3 a4 a5 a6 a7 a8 k
 obtain ⟨ih0, ih1⟩ := spec_l5Write.mono_l k
 unfold spec_l5Write.f
 repeat' first
   | (with_reducible first | exact ih0 _ _ _ _ _ _ _ _ _ _ | exact ih1 _ _ _ _ _ _ _ _ _ _ | exact LeO.refl _ | exact LeO.none _ | refine LeO.ite ?_ ?_ | refine LeO.bind ?_ (fun _ => ?_))
   | exact ih0 _ _ _ _ _ _ _ _ _ _
   | exact ih1 _ _ _ _ _ _ _ _ _ _
   | exact LeO.none _
   | refine LeO.ite ?_ ?_
   | refine LeO.bind ?_ (fun _ => ?_)
def spec_l5Write.T15 : Bool × List (List Nat × List Nat) := (true, [([], []), ([0], [0]), ([], []), ([2], [2]), ([3], [3]), ([], []), ([4, 5], [4, 5]), ([6], [6]), ([], []), ([1, 7, 8, 3], [1, 7, 8]), ([0, 1, 2, 3, 4, 5, 6, 7, 8, 9], []), ([10, 9, 9, 0, 1, 2, 3, 4, 5, 6, 7, 8, 9], [9, 10])])
def spec_l5Write.B15 : List Nat := [0, 1, 0, 4, 12, 0, 60, 124, 0, 511, 1023, 2047]
theorem spec_l5Write.tab15 : rtab .any (opsOf Try.f64 15) = spec_l5Write.T15 := by kernel_rfl
theorem spec_l5Write.bits15 : waitsOk spec_l5Write.T15.2 spec_l5Write.B15 = true := by kernel_rfl
theorem spec_l5Write.calls (k : Nat) (a0_0 : ByteArray) (a0_1 : Int) (a0_2 : Int) (a0_3 : ByteArray) (a0_4 : Int) (a0_5 : Bool) (a0_6 : Int) (a1 : Int) (a2 : Int) (r1 : ByteArray) (r2 : Int) (r3 : Int) (r4 : ByteArray) (r5 : Int) (r6 : Bool) (r7 : Int) (w : World) (h : spec_l5Write.f k a0_0 a0_1 a0_2 a0_3 a0_4 a0_5 a0_6 a1 a2 = some (r1, r2, r3, r4, r5, r6, r7)) :
  Calls Try.prog 64 #[.agg #[.string a0_0, .int .i64 a0_1, .int .i64 a0_2, .string a0_3, .int .i64 a0_4, .bool a0_5, .int .i64 a0_6], .int .i64 a1, .int .i64 a2] w fun e w' => e = .returned (.agg #[.string r1, .int .i64 r2, .int .i64 r3, .string r4, .int .i64 r5, .bool r6, .int .i64 r7]) ∧ Below w.heap.size w w' := by
 have hu32 := Try.underlying32
 have HB := Aside0.mk (Below.refl w.heap.size w)
 have H : (if a0_1 = 0 then (some (a0_0, a0_1, a0_2, a0_3, a0_4, a0_5, a0_6)) else (if a1 < 128 then (some (a0_0, a0_1, a0_2, a0_3, a0_4, ((Int.tmod a2 16) == 10), a0_6)) else (if a1 < 256 then (spec_l5Write.j0 k a1 a2 (a0_1 == 2) a0_0 a0_1 a0_2 a0_3 a0_4 a0_5 a0_6) else (spec_l5Write.j0 k a1 a2 false a0_0 a0_1 a0_2 a0_3 a0_4 a0_5 a0_6)))) = some (r1, r2, r3, r4, r5, r6, r7) := h
 clear h
 by_cases c4 : a0_1 = 0
 ·rw [if_pos c4] at H
  have c4b0 : (a0_1 == 0) = true := beq_iff_eq.mpr c4
  have c4b1 : (a0_1 != 0) = false := bne_eq_false_iff_eq.mpr c4
  clear c4
  simp only [Option.some.injEq, Prod.mk.injEq] at H
  obtain ⟨rfl, rfl, rfl, rfl, rfl, rfl, rfl⟩ := H
  go_enter Try.func64, Try.ntmps64
  go_wp2_with (first | ((with_reducible refine gate_dst (N := 3) rfl ?_); refine box_event ?hg (N := 3) ?hd (cs := #[.string a0_0, .int .i64 a0_1, .int .i64 a0_2, .string a0_3, .int .i64 a0_4, .bool a0_5, .int .i64 a0_6]) (t := 32) ?hr ?_; (case hd => rfl); (case hg => rfl); (case hr => exact q138_); intro gb125 hg w5 hbox hb; have n0_ := Aside0.mk (below_step q75_ hb); have n1_ := Aside0.mk (hbox); have n2_ := Aside0.mk ((q52_ : w.heap.size ≤ gb125)); have n3_ := Aside0.mk ((q52_ : w.heap.size ≤ gb125)); clear HB; have HB := n0_; have BK125 := n1_; have GW125 := n2_; have GE125 := n3_; clear n0_ n1_ n2_ n3_; clear hb hbox hg) | ((with_reducible refine gate_dst (N := 6) rfl ?_); refine box_event ?hg (N := 6) ?hd (cs := #[.string (⟨#[]⟩ : ByteArray), .int .i64 0, .int .i64 0, .string (⟨#[]⟩ : ByteArray), .int .i64 0, .bool false, .int .i64 0]) (t := 32) ?hr ?_; (case hd => rfl); (case hg => rfl); (case hr => exact q138_); intro gb126 hg w6 hbox hb; have n0_ := Aside0.mk (blk_below (g := gb125) (o := .cells #[.string a0_0, .int .i64 a0_1, .int .i64 a0_2, .string a0_3, .int .i64 a0_4, .bool a0_5, .int .i64 a0_6] 32 (0, 0)) q80_ hb); have n1_ := Aside0.mk (below_step q57_ hb); have n2_ := Aside0.mk (hbox); have n3_ := Aside0.mk ((q39_ : w.heap.size ≤ gb126)); have n4_ := Aside0.mk ((q39_ : w.heap.size ≤ gb126)); have n5_ := Aside0.mk ((q10_ : gb125 ≠ gb126)); have n6_ := Aside0.mk ((q11_ : gb126 ≠ gb125)); clear BK125; clear HB; have BK125 := n0_; have HB := n1_; have BK126 := n2_; have GW126 := n3_; have GE126 := n4_; have NB125_126 := n5_; have NB126_125 := n6_; clear n0_ n1_ n2_ n3_ n4_ n5_ n6_; clear hb hbox hg; have hnb7 := NB125_126.out; have hnc7 := NB126_125.out; have hcz8_0 : w6.cell? ⟨gb125, 0, none⟩ = some (.string a0_0) := (blk_cell BK125.out 0).trans rfl; have hcz8_1 : w6.cell? ⟨gb125, 1, none⟩ = some (.int .i64 a0_1) := (blk_cell BK125.out 1).trans rfl; have hcz8_2 : w6.cell? ⟨gb125, 2, none⟩ = some (.int .i64 a0_2) := (blk_cell BK125.out 2).trans rfl; have hcz8_3 : w6.cell? ⟨gb125, 3, none⟩ = some (.string a0_3) := (blk_cell BK125.out 3).trans rfl; have hcz8_4 : w6.cell? ⟨gb125, 4, none⟩ = some (.int .i64 a0_4) := (blk_cell BK125.out 4).trans rfl; have hcz8_5 : w6.cell? ⟨gb125, 5, none⟩ = some (.bool a0_5) := (blk_cell BK125.out 5).trans rfl; have hcz8_6 : w6.cell? ⟨gb125, 6, none⟩ = some (.int .i64 a0_6) := (blk_cell BK125.out 6).trans rfl; have hfz8_0 := blk_frozen BK125.out 0; have hfz8_1 := blk_frozen BK125.out 1; have hfz8_2 := blk_frozen BK125.out 2; have hfz8_3 := blk_frozen BK125.out 3; have hfz8_4 := blk_frozen BK125.out 4; have hfz8_5 := blk_frozen BK125.out 5; have hfz8_6 := blk_frozen BK125.out 6; have hcz9_0 : w6.cell? ⟨gb126, 0, none⟩ = some (.string (⟨#[]⟩ : ByteArray)) := (blk_cell BK126.out 0).trans rfl; have hcz9_1 : w6.cell? ⟨gb126, 1, none⟩ = some (.int .i64 0) := (blk_cell BK126.out 1).trans rfl; have hcz9_2 : w6.cell? ⟨gb126, 2, none⟩ = some (.int .i64 0) := (blk_cell BK126.out 2).trans rfl; have hcz9_3 : w6.cell? ⟨gb126, 3, none⟩ = some (.string (⟨#[]⟩ : ByteArray)) := (blk_cell BK126.out 3).trans rfl; have hcz9_4 : w6.cell? ⟨gb126, 4, none⟩ = some (.int .i64 0) := (blk_cell BK126.out 4).trans rfl; have hcz9_5 : w6.cell? ⟨gb126, 5, none⟩ = some (.bool false) := (blk_cell BK126.out 5).trans rfl; have hcz9_6 : w6.cell? ⟨gb126, 6, none⟩ = some (.int .i64 0) := (blk_cell BK126.out 6).trans rfl; have hfz9_0 := blk_frozen BK126.out 0; have hfz9_1 := blk_frozen BK126.out 1; have hfz9_2 := blk_frozen BK126.out 2; have hfz9_3 := blk_frozen BK126.out 3; have hfz9_4 := blk_frozen BK126.out 4; have hfz9_5 := blk_frozen BK126.out 5; have hfz9_6 := blk_frozen BK126.out 6))
  refine bodyPost_ret (results_cell_row rfl _ _ gb126 32 #[.string a0_0, .int .i64 a0_1, .int .i64 a0_2, .string a0_3, .int .i64 a0_4, .bool a0_5, .int .i64 a0_6] (0, 0) _ rfl q1_ Try.underlying32 rfl (by kernel_rfl)) rfl ?_
  exact ⟨q76_, q42_⟩
 ·rw [if_neg c4] at H
  have c4b0 : (a0_1 == 0) = false := beq_eq_false_iff_ne.mpr c4
  have c4b1 : (a0_1 != 0) = true := bne_iff_ne.mpr c4
  by_cases c10 : a1 < 128
  ·rw [if_pos c10] at H
   have c10b0 : decide (a1 < 128) = true := decide_eq_true c10
   clear c10
   simp only [Option.some.injEq, Prod.mk.injEq] at H
   obtain ⟨rfl, rfl, rfl, rfl, rfl, rfl, rfl⟩ := H
   go_enter Try.func64, Try.ntmps64
   go_wp2_with (first | ((with_reducible refine gate_dst (N := 3) rfl ?_); refine box_event ?hg (N := 3) ?hd (cs := #[.string a0_0, .int .i64 a0_1, .int .i64 a0_2, .string a0_3, .int .i64 a0_4, .bool a0_5, .int .i64 a0_6]) (t := 32) ?hr ?_; (case hd => rfl); (case hg => rfl); (case hr => exact q138_); intro gb125 hg w11 hbox hb; have n0_ := Aside0.mk (below_step q75_ hb); have n1_ := Aside0.mk (hbox); have n2_ := Aside0.mk ((q52_ : w.heap.size ≤ gb125)); have n3_ := Aside0.mk ((q52_ : w.heap.size ≤ gb125)); clear HB; have HB := n0_; have BK125 := n1_; have GW125 := n2_; have GE125 := n3_; clear n0_ n1_ n2_ n3_; clear hb hbox hg) | ((with_reducible refine gate_dst (N := 6) rfl ?_); refine box_event ?hg (N := 6) ?hd (cs := #[.string (⟨#[]⟩ : ByteArray), .int .i64 0, .int .i64 0, .string (⟨#[]⟩ : ByteArray), .int .i64 0, .bool false, .int .i64 0]) (t := 32) ?hr ?_; (case hd => rfl); (case hg => rfl); (case hr => exact q138_); intro gb126 hg w12 hbox hb; have n0_ := Aside0.mk (blk_below (g := gb125) (o := .cells #[.string a0_0, .int .i64 a0_1, .int .i64 a0_2, .string a0_3, .int .i64 a0_4, .bool a0_5, .int .i64 a0_6] 32 (0, 0)) q80_ hb); have n1_ := Aside0.mk (below_step q57_ hb); have n2_ := Aside0.mk (hbox); have n3_ := Aside0.mk ((q39_ : w.heap.size ≤ gb126)); have n4_ := Aside0.mk ((q39_ : w.heap.size ≤ gb126)); have n5_ := Aside0.mk ((q10_ : gb125 ≠ gb126)); have n6_ := Aside0.mk ((q11_ : gb126 ≠ gb125)); clear BK125; clear HB; have BK125 := n0_; have HB := n1_; have BK126 := n2_; have GW126 := n3_; have GE126 := n4_; have NB125_126 := n5_; have NB126_125 := n6_; clear n0_ n1_ n2_ n3_ n4_ n5_ n6_; clear hb hbox hg; have hnb13 := NB125_126.out; have hnc13 := NB126_125.out; have hcz14_0 : w12.cell? ⟨gb125, 0, none⟩ = some (.string a0_0) := (blk_cell BK125.out 0).trans rfl; have hcz14_1 : w12.cell? ⟨gb125, 1, none⟩ = some (.int .i64 a0_1) := (blk_cell BK125.out 1).trans rfl; have hcz14_2 : w12.cell? ⟨gb125, 2, none⟩ = some (.int .i64 a0_2) := (blk_cell BK125.out 2).trans rfl; have hcz14_3 : w12.cell? ⟨gb125, 3, none⟩ = some (.string a0_3) := (blk_cell BK125.out 3).trans rfl; have hcz14_4 : w12.cell? ⟨gb125, 4, none⟩ = some (.int .i64 a0_4) := (blk_cell BK125.out 4).trans rfl; have hcz14_5 : w12.cell? ⟨gb125, 5, none⟩ = some (.bool a0_5) := (blk_cell BK125.out 5).trans rfl; have hcz14_6 : w12.cell? ⟨gb125, 6, none⟩ = some (.int .i64 a0_6) := (blk_cell BK125.out 6).trans rfl; have hfz14_0 := blk_frozen BK125.out 0; have hfz14_1 := blk_frozen BK125.out 1; have hfz14_2 := blk_frozen BK125.out 2; have hfz14_3 := blk_frozen BK125.out 3; have hfz14_4 := blk_frozen BK125.out 4; have hfz14_5 := blk_frozen BK125.out 5; have hfz14_6 := blk_frozen BK125.out 6; have hcz15_0 : w12.cell? ⟨gb126, 0, none⟩ = some (.string (⟨#[]⟩ : ByteArray)) := (blk_cell BK126.out 0).trans rfl; have hcz15_1 : w12.cell? ⟨gb126, 1, none⟩ = some (.int .i64 0) := (blk_cell BK126.out 1).trans rfl; have hcz15_2 : w12.cell? ⟨gb126, 2, none⟩ = some (.int .i64 0) := (blk_cell BK126.out 2).trans rfl; have hcz15_3 : w12.cell? ⟨gb126, 3, none⟩ = some (.string (⟨#[]⟩ : ByteArray)) := (blk_cell BK126.out 3).trans rfl; have hcz15_4 : w12.cell? ⟨gb126, 4, none⟩ = some (.int .i64 0) := (blk_cell BK126.out 4).trans rfl; have hcz15_5 : w12.cell? ⟨gb126, 5, none⟩ = some (.bool false) := (blk_cell BK126.out 5).trans rfl; have hcz15_6 : w12.cell? ⟨gb126, 6, none⟩ = some (.int .i64 0) := (blk_cell BK126.out 6).trans rfl; have hfz15_0 := blk_frozen BK126.out 0; have hfz15_1 := blk_frozen BK126.out 1; have hfz15_2 := blk_frozen BK126.out 2; have hfz15_3 := blk_frozen BK126.out 3; have hfz15_4 := blk_frozen BK126.out 4; have hfz15_5 := blk_frozen BK126.out 5; have hfz15_6 := blk_frozen BK126.out 6))
   refine bodyPost_ret (results_cell_row rfl _ _ gb126 32 #[.string a0_0, .int .i64 a0_1, .int .i64 a0_2, .string a0_3, .int .i64 a0_4, .bool ((Int.tmod a2 16) == 10), .int .i64 a0_6] (0, 0) _ rfl (by (with_reducible repeat (first | refine blk_drewN ?_ _ | refine blk_drew ?_ | refine blk_alloc ?_ _)); refine blk_put (cs := #[.string a0_0, .int .i64 a0_1, .int .i64 a0_2, .string a0_3, .int .i64 a0_4, .bool ((Int.tmod a2 16) == 10), .int .i64 0]) ?_ 6 _ rfl; (with_reducible repeat (first | refine blk_drewN ?_ _ | refine blk_drew ?_ | refine blk_alloc ?_ _)); refine blk_put (cs := #[.string a0_0, .int .i64 a0_1, .int .i64 a0_2, .string a0_3, .int .i64 a0_4, .bool false, .int .i64 0]) ?_ 5 _ rfl; (with_reducible repeat (first | refine blk_drewN ?_ _ | refine blk_drew ?_ | refine blk_alloc ?_ _)); refine blk_put (cs := #[.string a0_0, .int .i64 a0_1, .int .i64 a0_2, .string a0_3, .int .i64 0, .bool false, .int .i64 0]) ?_ 4 _ rfl; (with_reducible repeat (first | refine blk_drewN ?_ _ | refine blk_drew ?_ | refine blk_alloc ?_ _)); refine blk_put (cs := #[.string a0_0, .int .i64 a0_1, .int .i64 a0_2, .string (⟨#[]⟩ : ByteArray), .int .i64 0, .bool false, .int .i64 0]) ?_ 3 _ rfl; (with_reducible repeat (first | refine blk_drewN ?_ _ | refine blk_drew ?_ | refine blk_alloc ?_ _)); refine blk_put (cs := #[.string a0_0, .int .i64 a0_1, .int .i64 0, .string (⟨#[]⟩ : ByteArray), .int .i64 0, .bool false, .int .i64 0]) ?_ 2 _ rfl; (with_reducible repeat (first | refine blk_drewN ?_ _ | refine blk_drew ?_ | refine blk_alloc ?_ _)); refine blk_put (cs := #[.string a0_0, .int .i64 0, .int .i64 0, .string (⟨#[]⟩ : ByteArray), .int .i64 0, .bool false, .int .i64 0]) ?_ 1 _ rfl; (with_reducible repeat (first | refine blk_drewN ?_ _ | refine blk_drew ?_ | refine blk_alloc ?_ _)); refine blk_put (cs := #[.string (⟨#[]⟩ : ByteArray), .int .i64 0, .int .i64 0, .string (⟨#[]⟩ : ByteArray), .int .i64 0, .bool false, .int .i64 0]) ?_ 0 _ rfl; (with_reducible repeat (first | refine blk_drewN ?_ _ | refine blk_drew ?_ | refine blk_alloc ?_ _)); refine blk_far ?_ NB126_125.out _; (with_reducible repeat (first | refine blk_drewN ?_ _ | refine blk_drew ?_ | refine blk_alloc ?_ _)); exact BK126.out) Try.underlying32 rfl (by kernel_rfl)) rfl ?_
   exact ⟨q76_, q42_⟩
  ·rw [if_neg c10] at H
   have c10b0 : decide (a1 < 128) = false := decide_eq_false c10
   clear c10
   have HC16 := Aside0.mk H
   clear H
   go_enter Try.func64, Try.ntmps64
   go_upto_region 5 with (first | ((with_reducible refine gate_dst (N := 3) rfl ?_); refine box_event ?hg (N := 3) ?hd (cs := #[.string a0_0, .int .i64 a0_1, .int .i64 a0_2, .string a0_3, .int .i64 a0_4, .bool a0_5, .int .i64 a0_6]) (t := 32) ?hr ?_; (case hd => rfl); (case hg => rfl); (case hr => exact q138_); intro gb125 hg w17 hbox hb; have n0_ := Aside0.mk (below_step q75_ hb); have n1_ := Aside0.mk (hbox); have n2_ := Aside0.mk ((q52_ : w.heap.size ≤ gb125)); have n3_ := Aside0.mk ((q52_ : w.heap.size ≤ gb125)); clear HB; have HB := n0_; have BK125 := n1_; have GW125 := n2_; have GE125 := n3_; clear n0_ n1_ n2_ n3_; clear hb hbox hg) | ((with_reducible refine gate_dst (N := 6) rfl ?_); refine box_event ?hg (N := 6) ?hd (cs := #[.string (⟨#[]⟩ : ByteArray), .int .i64 0, .int .i64 0, .string (⟨#[]⟩ : ByteArray), .int .i64 0, .bool false, .int .i64 0]) (t := 32) ?hr ?_; (case hd => rfl); (case hg => rfl); (case hr => exact q138_); intro gb126 hg w18 hbox hb; have n0_ := Aside0.mk (blk_below (g := gb125) (o := .cells #[.string a0_0, .int .i64 a0_1, .int .i64 a0_2, .string a0_3, .int .i64 a0_4, .bool a0_5, .int .i64 a0_6] 32 (0, 0)) q80_ hb); have n1_ := Aside0.mk (below_step q57_ hb); have n2_ := Aside0.mk (hbox); have n3_ := Aside0.mk ((q39_ : w.heap.size ≤ gb126)); have n4_ := Aside0.mk ((q39_ : w.heap.size ≤ gb126)); have n5_ := Aside0.mk ((q10_ : gb125 ≠ gb126)); have n6_ := Aside0.mk ((q11_ : gb126 ≠ gb125)); clear BK125; clear HB; have BK125 := n0_; have HB := n1_; have BK126 := n2_; have GW126 := n3_; have GE126 := n4_; have NB125_126 := n5_; have NB126_125 := n6_; clear n0_ n1_ n2_ n3_ n4_ n5_ n6_; clear hb hbox hg; have hnb19 := NB125_126.out; have hnc19 := NB126_125.out; have hcz20_0 : w18.cell? ⟨gb125, 0, none⟩ = some (.string a0_0) := (blk_cell BK125.out 0).trans rfl; have hcz20_1 : w18.cell? ⟨gb125, 1, none⟩ = some (.int .i64 a0_1) := (blk_cell BK125.out 1).trans rfl; have hcz20_2 : w18.cell? ⟨gb125, 2, none⟩ = some (.int .i64 a0_2) := (blk_cell BK125.out 2).trans rfl; have hcz20_3 : w18.cell? ⟨gb125, 3, none⟩ = some (.string a0_3) := (blk_cell BK125.out 3).trans rfl; have hcz20_4 : w18.cell? ⟨gb125, 4, none⟩ = some (.int .i64 a0_4) := (blk_cell BK125.out 4).trans rfl; have hcz20_5 : w18.cell? ⟨gb125, 5, none⟩ = some (.bool a0_5) := (blk_cell BK125.out 5).trans rfl; have hcz20_6 : w18.cell? ⟨gb125, 6, none⟩ = some (.int .i64 a0_6) := (blk_cell BK125.out 6).trans rfl; have hfz20_0 := blk_frozen BK125.out 0; have hfz20_1 := blk_frozen BK125.out 1; have hfz20_2 := blk_frozen BK125.out 2; have hfz20_3 := blk_frozen BK125.out 3; have hfz20_4 := blk_frozen BK125.out 4; have hfz20_5 := blk_frozen BK125.out 5; have hfz20_6 := blk_frozen BK125.out 6))
   (try simp only [Act.put, List.setIfInBounds_toArray, List.set_cons_zero, List.set_cons_succ])
   go_cut [18] (fun v18 wc => ∃ (kq : Nat) (x18_15 : Bool), v18 = .bool x18_15 ∧ Aside0 (spec_l5Write.j0 kq a1 a2 x18_15 a0_0 a0_1 a0_2 a0_3 a0_4 a0_5 a0_6 = some (r1, r2, r3, r4, r5, r6, r7)) ∧ Aside0 (kq ≤ k) ∧ Aside0 (wc.heap[gb125]? = some (.cells #[.string a0_0, .int .i64 a0_1, .int .i64 a0_2, .string a0_3, .int .i64 a0_4, .bool a0_5, .int .i64 a0_6] 32 (0, 0))) ∧ Aside0 (wc.heap[gb126]? = some (.cells #[.string (⟨#[]⟩ : ByteArray), .int .i64 0, .int .i64 0, .string (⟨#[]⟩ : ByteArray), .int .i64 0, .bool false, .int .i64 0] 32 (0, 0))) ∧ Aside0 (Below w.heap.size w wc))
   case first =>
    have H := HC16.out
    clear HC16
    by_cases c21 : a1 < 256
    ·rw [if_pos c21] at H
     have c21b0 : decide (a1 < 256) = true := decide_eq_true c21
     clear c21
     (first | rw [c21b0] | (simp only [i64_w, i32_w]; rw [c21b0]) | skip)
     have H' := Aside0.mk H
     clear H
     have hnb22 := NB125_126.out
     have hnc22 := NB126_125.out
     have hcz23_0 : w18.cell? ⟨gb125, 0, none⟩ = some (.string a0_0) := bz_ BK125 0
     have hcz23_1 : w18.cell? ⟨gb125, 1, none⟩ = some (.int .i64 a0_1) := bz_ BK125 1
     have hcz23_2 : w18.cell? ⟨gb125, 2, none⟩ = some (.int .i64 a0_2) := bz_ BK125 2
     have hcz23_3 : w18.cell? ⟨gb125, 3, none⟩ = some (.string a0_3) := bz_ BK125 3
     have hcz23_4 : w18.cell? ⟨gb125, 4, none⟩ = some (.int .i64 a0_4) := bz_ BK125 4
     have hcz23_5 : w18.cell? ⟨gb125, 5, none⟩ = some (.bool a0_5) := bz_ BK125 5
     have hcz23_6 : w18.cell? ⟨gb125, 6, none⟩ = some (.int .i64 a0_6) := bz_ BK125 6
     have hfz23_0 := blk_frozen BK125.out 0
     have hfz23_1 := blk_frozen BK125.out 1
     have hfz23_2 := blk_frozen BK125.out 2
     have hfz23_3 := blk_frozen BK125.out 3
     have hfz23_4 := blk_frozen BK125.out 4
     have hfz23_5 := blk_frozen BK125.out 5
     have hfz23_6 := blk_frozen BK125.out 6
     go_wp2
     go_meet
     case rel => exact ⟨_, ((a0_1 == 2)), q101_, H', ⟨q121_⟩, ⟨q80_⟩, ⟨q81_⟩, ⟨q42_⟩⟩
    ·rw [if_neg c21] at H
     have c21b0 : decide (a1 < 256) = false := decide_eq_false c21
     clear c21
     (first | rw [c21b0] | (simp only [i64_w, i32_w]; rw [c21b0]) | skip)
     have H' := Aside0.mk H
     clear H
     go_wp2
     go_meet
     case rel => exact ⟨_, (false), q101_, H', ⟨q121_⟩, ⟨q80_⟩, ⟨q81_⟩, ⟨q42_⟩⟩
   case rest =>
    clear HC16
    try clear c1
    try clear c2
    try clear p2
    try clear c4
    try clear c4b0
    try clear c4b1
    try clear c6
    try clear p6
    try clear c7
    try clear c10
    try clear c10b0
    try clear c13
    try clear c19
    try clear c21
    try clear c21b0
    try clear c22
    try clear hcz14_0 hcz14_1 hcz14_2 hcz14_3 hcz14_4 hcz14_5 hcz14_6
    try clear hcz15_0 hcz15_1 hcz15_2 hcz15_3 hcz15_4 hcz15_5 hcz15_6
    try clear hcz20_0 hcz20_1 hcz20_2 hcz20_3 hcz20_4 hcz20_5 hcz20_6
    try clear hcz23_0 hcz23_1 hcz23_2 hcz23_3 hcz23_4 hcz23_5 hcz23_6
    try clear hcz8_0 hcz8_1 hcz8_2 hcz8_3 hcz8_4 hcz8_5 hcz8_6
    try clear hcz9_0 hcz9_1 hcz9_2 hcz9_3 hcz9_4 hcz9_5 hcz9_6
    try clear hfz14_0 hfz14_1 hfz14_2 hfz14_3 hfz14_4 hfz14_5 hfz14_6
    try clear hfz15_0 hfz15_1 hfz15_2 hfz15_3 hfz15_4 hfz15_5 hfz15_6
    try clear hfz20_0 hfz20_1 hfz20_2 hfz20_3 hfz20_4 hfz20_5 hfz20_6
    try clear hfz23_0 hfz23_1 hfz23_2 hfz23_3 hfz23_4 hfz23_5 hfz23_6
    try clear hfz8_0 hfz8_1 hfz8_2 hfz8_3 hfz8_4 hfz8_5 hfz8_6
    try clear hfz9_0 hfz9_1 hfz9_2 hfz9_3 hfz9_4 hfz9_5 hfz9_6
    obtain ⟨kq, x18_15, rfl, HA, HJ15, BK125, BK126, HB⟩ := hcut
    cases kq with
    | zero => exact absurd HA.out (by simp [spec_l5Write.j0])
    | succ kj15 =>
     have H := HA.out
     clear HA
     simp only [spec_l5Write.j0] at H
     by_cases c24 : x18_15 = true
     ·subst c24
      replace H : (some (a0_0, a0_1, a2, a0_3, a0_4, a0_5, a0_6)) = some (r1, r2, r3, r4, r5, r6, r7) := by rw [if_pos rfl] at H; exact H
      simp only [Option.some.injEq, Prod.mk.injEq] at H
      obtain ⟨rfl, rfl, rfl, rfl, rfl, rfl, rfl⟩ := H
      have hnb25 := NB125_126.out
      have hnc25 := NB126_125.out
      have hcz26_0 : wc.cell? ⟨gb125, 0, none⟩ = some (.string a0_0) := bz_ BK125 0
      have hcz26_1 : wc.cell? ⟨gb125, 1, none⟩ = some (.int .i64 a0_1) := bz_ BK125 1
      have hcz26_2 : wc.cell? ⟨gb125, 2, none⟩ = some (.int .i64 a0_2) := bz_ BK125 2
      have hcz26_3 : wc.cell? ⟨gb125, 3, none⟩ = some (.string a0_3) := bz_ BK125 3
      have hcz26_4 : wc.cell? ⟨gb125, 4, none⟩ = some (.int .i64 a0_4) := bz_ BK125 4
      have hcz26_5 : wc.cell? ⟨gb125, 5, none⟩ = some (.bool a0_5) := bz_ BK125 5
      have hcz26_6 : wc.cell? ⟨gb125, 6, none⟩ = some (.int .i64 a0_6) := bz_ BK125 6
      have hfz26_0 := blk_frozen BK125.out 0
      have hfz26_1 := blk_frozen BK125.out 1
      have hfz26_2 := blk_frozen BK125.out 2
      have hfz26_3 := blk_frozen BK125.out 3
      have hfz26_4 := blk_frozen BK125.out 4
      have hfz26_5 := blk_frozen BK125.out 5
      have hfz26_6 := blk_frozen BK125.out 6
      have hcz27_0 : wc.cell? ⟨gb126, 0, none⟩ = some (.string (⟨#[]⟩ : ByteArray)) := bz_ BK126 0
      have hcz27_1 : wc.cell? ⟨gb126, 1, none⟩ = some (.int .i64 0) := bz_ BK126 1
      have hcz27_2 : wc.cell? ⟨gb126, 2, none⟩ = some (.int .i64 0) := bz_ BK126 2
      have hcz27_3 : wc.cell? ⟨gb126, 3, none⟩ = some (.string (⟨#[]⟩ : ByteArray)) := bz_ BK126 3
      have hcz27_4 : wc.cell? ⟨gb126, 4, none⟩ = some (.int .i64 0) := bz_ BK126 4
      have hcz27_5 : wc.cell? ⟨gb126, 5, none⟩ = some (.bool false) := bz_ BK126 5
      have hcz27_6 : wc.cell? ⟨gb126, 6, none⟩ = some (.int .i64 0) := bz_ BK126 6
      have hfz27_0 := blk_frozen BK126.out 0
      have hfz27_1 := blk_frozen BK126.out 1
      have hfz27_2 := blk_frozen BK126.out 2
      have hfz27_3 := blk_frozen BK126.out 3
      have hfz27_4 := blk_frozen BK126.out 4
      have hfz27_5 := blk_frozen BK126.out 5
      have hfz27_6 := blk_frozen BK126.out 6
      go_wp2
      refine bodyPost_ret (results_cell_row rfl _ _ gb126 32 #[.string a0_0, .int .i64 a0_1, .int .i64 a2, .string a0_3, .int .i64 a0_4, .bool a0_5, .int .i64 a0_6] (0, 0) _ rfl (by (with_reducible repeat (first | refine blk_drewN ?_ _ | refine blk_drew ?_ | refine blk_alloc ?_ _)); refine blk_put (cs := #[.string a0_0, .int .i64 a0_1, .int .i64 a2, .string a0_3, .int .i64 a0_4, .bool a0_5, .int .i64 0]) ?_ 6 _ rfl; (with_reducible repeat (first | refine blk_drewN ?_ _ | refine blk_drew ?_ | refine blk_alloc ?_ _)); refine blk_put (cs := #[.string a0_0, .int .i64 a0_1, .int .i64 a2, .string a0_3, .int .i64 a0_4, .bool false, .int .i64 0]) ?_ 5 _ rfl; (with_reducible repeat (first | refine blk_drewN ?_ _ | refine blk_drew ?_ | refine blk_alloc ?_ _)); refine blk_put (cs := #[.string a0_0, .int .i64 a0_1, .int .i64 a2, .string a0_3, .int .i64 0, .bool false, .int .i64 0]) ?_ 4 _ rfl; (with_reducible repeat (first | refine blk_drewN ?_ _ | refine blk_drew ?_ | refine blk_alloc ?_ _)); refine blk_put (cs := #[.string a0_0, .int .i64 a0_1, .int .i64 a2, .string (⟨#[]⟩ : ByteArray), .int .i64 0, .bool false, .int .i64 0]) ?_ 3 _ rfl; (with_reducible repeat (first | refine blk_drewN ?_ _ | refine blk_drew ?_ | refine blk_alloc ?_ _)); refine blk_put (cs := #[.string a0_0, .int .i64 a0_1, .int .i64 0, .string (⟨#[]⟩ : ByteArray), .int .i64 0, .bool false, .int .i64 0]) ?_ 2 _ rfl; (with_reducible repeat (first | refine blk_drewN ?_ _ | refine blk_drew ?_ | refine blk_alloc ?_ _)); refine blk_put (cs := #[.string a0_0, .int .i64 0, .int .i64 0, .string (⟨#[]⟩ : ByteArray), .int .i64 0, .bool false, .int .i64 0]) ?_ 1 _ rfl; (with_reducible repeat (first | refine blk_drewN ?_ _ | refine blk_drew ?_ | refine blk_alloc ?_ _)); refine blk_put (cs := #[.string (⟨#[]⟩ : ByteArray), .int .i64 0, .int .i64 0, .string (⟨#[]⟩ : ByteArray), .int .i64 0, .bool false, .int .i64 0]) ?_ 0 _ rfl; (with_reducible repeat (first | refine blk_drewN ?_ _ | refine blk_drew ?_ | refine blk_alloc ?_ _)); refine blk_far ?_ NB126_125.out _; (with_reducible repeat (first | refine blk_drewN ?_ _ | refine blk_drew ?_ | refine blk_alloc ?_ _)); exact BK126.out) Try.underlying32 rfl (by kernel_rfl)) rfl ?_
      exact ⟨q76_, q42_⟩
     ·replace c24 := Bool.eq_false_iff.mpr c24
      subst c24
      replace H : (if a1 < 256 then (some (a0_0, a0_1, mx 1 (Int.tmod a2 32), a0_3, a0_4, a0_5, a0_6)) else (if a1 < 384 then (some (a0_0, a0_1, a0_2, a0_3, Int.tmod a2 4, a0_5, a0_6)) else (if a1 < 512 then (if a0_1 = 1 then (some (a0_0, a0_1, a0_2, a0_3, a0_4, a0_5, Int.tmod a2 2)) else (some (a0_0, a0_1, a0_2, a0_3, a0_4, a0_5, a0_6))) else (if a0_5 = true then ((spec_l1In.f a1 40960 41023).bind fun t127 => (spec_l5Write.j1 kj15 a1 a2 t127 a0_0 a0_1 a0_2 a0_3 a0_4 a0_5 a0_6)) else (spec_l5Write.j1 kj15 a1 a2 false a0_0 a0_1 a0_2 a0_3 a0_4 a0_5 a0_6))))) = some (r1, r2, r3, r4, r5, r6, r7) := by rw [if_neg (show ¬ (false = true) by decide)] at H; exact H
      by_cases c28 : a1 < 256
      ·rw [if_pos c28] at H
       have c28b0 : decide (a1 < 256) = true := decide_eq_true c28
       clear c28
       obtain ⟨ji29, hji29⟩ : ∃ j_ : Int, (mx 1 (Int.tmod a2 32)) = j_ := ⟨_, rfl⟩
       replace H : (some (a0_0, a0_1, ji29, a0_3, a0_4, a0_5, a0_6)) = some (r1, r2, r3, r4, r5, r6, r7) := by first | (rw [hji29] at H; exact H) | (simp only [hji29] at H ⊢; exact H)
       have hji29_ : (if 1 < (Int.tmod a2 32) then (Int.tmod a2 32) else 1) = ji29 := hji29
       simp only [Option.some.injEq, Prod.mk.injEq] at H
       obtain ⟨rfl, rfl, rfl, rfl, rfl, rfl, rfl⟩ := H
       have hnb30 := NB125_126.out
       have hnc30 := NB126_125.out
       have hcz31_0 : wc.cell? ⟨gb125, 0, none⟩ = some (.string a0_0) := bz_ BK125 0
       have hcz31_1 : wc.cell? ⟨gb125, 1, none⟩ = some (.int .i64 a0_1) := bz_ BK125 1
       have hcz31_2 : wc.cell? ⟨gb125, 2, none⟩ = some (.int .i64 a0_2) := bz_ BK125 2
       have hcz31_3 : wc.cell? ⟨gb125, 3, none⟩ = some (.string a0_3) := bz_ BK125 3
       have hcz31_4 : wc.cell? ⟨gb125, 4, none⟩ = some (.int .i64 a0_4) := bz_ BK125 4
       have hcz31_5 : wc.cell? ⟨gb125, 5, none⟩ = some (.bool a0_5) := bz_ BK125 5
       have hcz31_6 : wc.cell? ⟨gb125, 6, none⟩ = some (.int .i64 a0_6) := bz_ BK125 6
       have hfz31_0 := blk_frozen BK125.out 0
       have hfz31_1 := blk_frozen BK125.out 1
       have hfz31_2 := blk_frozen BK125.out 2
       have hfz31_3 := blk_frozen BK125.out 3
       have hfz31_4 := blk_frozen BK125.out 4
       have hfz31_5 := blk_frozen BK125.out 5
       have hfz31_6 := blk_frozen BK125.out 6
       have hcz32_0 : wc.cell? ⟨gb126, 0, none⟩ = some (.string (⟨#[]⟩ : ByteArray)) := bz_ BK126 0
       have hcz32_1 : wc.cell? ⟨gb126, 1, none⟩ = some (.int .i64 0) := bz_ BK126 1
       have hcz32_2 : wc.cell? ⟨gb126, 2, none⟩ = some (.int .i64 0) := bz_ BK126 2
       have hcz32_3 : wc.cell? ⟨gb126, 3, none⟩ = some (.string (⟨#[]⟩ : ByteArray)) := bz_ BK126 3
       have hcz32_4 : wc.cell? ⟨gb126, 4, none⟩ = some (.int .i64 0) := bz_ BK126 4
       have hcz32_5 : wc.cell? ⟨gb126, 5, none⟩ = some (.bool false) := bz_ BK126 5
       have hcz32_6 : wc.cell? ⟨gb126, 6, none⟩ = some (.int .i64 0) := bz_ BK126 6
       have hfz32_0 := blk_frozen BK126.out 0
       have hfz32_1 := blk_frozen BK126.out 1
       have hfz32_2 := blk_frozen BK126.out 2
       have hfz32_3 := blk_frozen BK126.out 3
       have hfz32_4 := blk_frozen BK126.out 4
       have hfz32_5 := blk_frozen BK126.out 5
       have hfz32_6 := blk_frozen BK126.out 6
       go_wp2
       refine bodyPost_ret (results_cell_row rfl _ _ gb126 32 #[.string a0_0, .int .i64 a0_1, .int .i64 ji29, .string a0_3, .int .i64 a0_4, .bool a0_5, .int .i64 a0_6] (0, 0) _ rfl (by (with_reducible repeat (first | refine blk_drewN ?_ _ | refine blk_drew ?_ | refine blk_alloc ?_ _)); refine blk_put (cs := #[.string a0_0, .int .i64 a0_1, .int .i64 ji29, .string a0_3, .int .i64 a0_4, .bool a0_5, .int .i64 0]) ?_ 6 _ rfl; (with_reducible repeat (first | refine blk_drewN ?_ _ | refine blk_drew ?_ | refine blk_alloc ?_ _)); refine blk_put (cs := #[.string a0_0, .int .i64 a0_1, .int .i64 ji29, .string a0_3, .int .i64 a0_4, .bool false, .int .i64 0]) ?_ 5 _ rfl; (with_reducible repeat (first | refine blk_drewN ?_ _ | refine blk_drew ?_ | refine blk_alloc ?_ _)); refine blk_put (cs := #[.string a0_0, .int .i64 a0_1, .int .i64 ji29, .string a0_3, .int .i64 0, .bool false, .int .i64 0]) ?_ 4 _ rfl; (with_reducible repeat (first | refine blk_drewN ?_ _ | refine blk_drew ?_ | refine blk_alloc ?_ _)); refine blk_put (cs := #[.string a0_0, .int .i64 a0_1, .int .i64 ji29, .string (⟨#[]⟩ : ByteArray), .int .i64 0, .bool false, .int .i64 0]) ?_ 3 _ rfl; (with_reducible repeat (first | refine blk_drewN ?_ _ | refine blk_drew ?_ | refine blk_alloc ?_ _)); refine blk_put (cs := #[.string a0_0, .int .i64 a0_1, .int .i64 0, .string (⟨#[]⟩ : ByteArray), .int .i64 0, .bool false, .int .i64 0]) ?_ 2 _ rfl; (with_reducible repeat (first | refine blk_drewN ?_ _ | refine blk_drew ?_ | refine blk_alloc ?_ _)); refine blk_put (cs := #[.string a0_0, .int .i64 0, .int .i64 0, .string (⟨#[]⟩ : ByteArray), .int .i64 0, .bool false, .int .i64 0]) ?_ 1 _ rfl; (with_reducible repeat (first | refine blk_drewN ?_ _ | refine blk_drew ?_ | refine blk_alloc ?_ _)); refine blk_put (cs := #[.string (⟨#[]⟩ : ByteArray), .int .i64 0, .int .i64 0, .string (⟨#[]⟩ : ByteArray), .int .i64 0, .bool false, .int .i64 0]) ?_ 0 _ rfl; (with_reducible repeat (first | refine blk_drewN ?_ _ | refine blk_drew ?_ | refine blk_alloc ?_ _)); refine blk_far ?_ NB126_125.out _; (with_reducible repeat (first | refine blk_drewN ?_ _ | refine blk_drew ?_ | refine blk_alloc ?_ _)); exact BK126.out) Try.underlying32 rfl (by kernel_rfl)) rfl ?_
       exact ⟨q35_, q42_⟩
      ·rw [if_neg c28] at H
       have c28b0 : decide (a1 < 256) = false := decide_eq_false c28
       clear c28
       by_cases c33 : a1 < 384
       ·rw [if_pos c33] at H
        have c33b0 : decide (a1 < 384) = true := decide_eq_true c33
        clear c33
        simp only [Option.some.injEq, Prod.mk.injEq] at H
        obtain ⟨rfl, rfl, rfl, rfl, rfl, rfl, rfl⟩ := H
        have hnb34 := NB125_126.out
        have hnc34 := NB126_125.out
        have hcz35_0 : wc.cell? ⟨gb125, 0, none⟩ = some (.string a0_0) := bz_ BK125 0
        have hcz35_1 : wc.cell? ⟨gb125, 1, none⟩ = some (.int .i64 a0_1) := bz_ BK125 1
        have hcz35_2 : wc.cell? ⟨gb125, 2, none⟩ = some (.int .i64 a0_2) := bz_ BK125 2
        have hcz35_3 : wc.cell? ⟨gb125, 3, none⟩ = some (.string a0_3) := bz_ BK125 3
        have hcz35_4 : wc.cell? ⟨gb125, 4, none⟩ = some (.int .i64 a0_4) := bz_ BK125 4
        have hcz35_5 : wc.cell? ⟨gb125, 5, none⟩ = some (.bool a0_5) := bz_ BK125 5
        have hcz35_6 : wc.cell? ⟨gb125, 6, none⟩ = some (.int .i64 a0_6) := bz_ BK125 6
        have hfz35_0 := blk_frozen BK125.out 0
        have hfz35_1 := blk_frozen BK125.out 1
        have hfz35_2 := blk_frozen BK125.out 2
        have hfz35_3 := blk_frozen BK125.out 3
        have hfz35_4 := blk_frozen BK125.out 4
        have hfz35_5 := blk_frozen BK125.out 5
        have hfz35_6 := blk_frozen BK125.out 6
        have hcz36_0 : wc.cell? ⟨gb126, 0, none⟩ = some (.string (⟨#[]⟩ : ByteArray)) := bz_ BK126 0
        have hcz36_1 : wc.cell? ⟨gb126, 1, none⟩ = some (.int .i64 0) := bz_ BK126 1
        have hcz36_2 : wc.cell? ⟨gb126, 2, none⟩ = some (.int .i64 0) := bz_ BK126 2
        have hcz36_3 : wc.cell? ⟨gb126, 3, none⟩ = some (.string (⟨#[]⟩ : ByteArray)) := bz_ BK126 3
        have hcz36_4 : wc.cell? ⟨gb126, 4, none⟩ = some (.int .i64 0) := bz_ BK126 4
        have hcz36_5 : wc.cell? ⟨gb126, 5, none⟩ = some (.bool false) := bz_ BK126 5
        have hcz36_6 : wc.cell? ⟨gb126, 6, none⟩ = some (.int .i64 0) := bz_ BK126 6
        have hfz36_0 := blk_frozen BK126.out 0
        have hfz36_1 := blk_frozen BK126.out 1
        have hfz36_2 := blk_frozen BK126.out 2
        have hfz36_3 := blk_frozen BK126.out 3
        have hfz36_4 := blk_frozen BK126.out 4
        have hfz36_5 := blk_frozen BK126.out 5
        have hfz36_6 := blk_frozen BK126.out 6
        go_wp2
        refine bodyPost_ret (results_cell_row rfl _ _ gb126 32 #[.string a0_0, .int .i64 a0_1, .int .i64 a0_2, .string a0_3, .int .i64 (Int.tmod a2 4), .bool a0_5, .int .i64 a0_6] (0, 0) _ rfl (by (with_reducible repeat (first | refine blk_drewN ?_ _ | refine blk_drew ?_ | refine blk_alloc ?_ _)); refine blk_put (cs := #[.string a0_0, .int .i64 a0_1, .int .i64 a0_2, .string a0_3, .int .i64 (Int.tmod a2 4), .bool a0_5, .int .i64 0]) ?_ 6 _ rfl; (with_reducible repeat (first | refine blk_drewN ?_ _ | refine blk_drew ?_ | refine blk_alloc ?_ _)); refine blk_put (cs := #[.string a0_0, .int .i64 a0_1, .int .i64 a0_2, .string a0_3, .int .i64 (Int.tmod a2 4), .bool false, .int .i64 0]) ?_ 5 _ rfl; (with_reducible repeat (first | refine blk_drewN ?_ _ | refine blk_drew ?_ | refine blk_alloc ?_ _)); refine blk_put (cs := #[.string a0_0, .int .i64 a0_1, .int .i64 a0_2, .string a0_3, .int .i64 0, .bool false, .int .i64 0]) ?_ 4 _ rfl; (with_reducible repeat (first | refine blk_drewN ?_ _ | refine blk_drew ?_ | refine blk_alloc ?_ _)); refine blk_put (cs := #[.string a0_0, .int .i64 a0_1, .int .i64 a0_2, .string (⟨#[]⟩ : ByteArray), .int .i64 0, .bool false, .int .i64 0]) ?_ 3 _ rfl; (with_reducible repeat (first | refine blk_drewN ?_ _ | refine blk_drew ?_ | refine blk_alloc ?_ _)); refine blk_put (cs := #[.string a0_0, .int .i64 a0_1, .int .i64 0, .string (⟨#[]⟩ : ByteArray), .int .i64 0, .bool false, .int .i64 0]) ?_ 2 _ rfl; (with_reducible repeat (first | refine blk_drewN ?_ _ | refine blk_drew ?_ | refine blk_alloc ?_ _)); refine blk_put (cs := #[.string a0_0, .int .i64 0, .int .i64 0, .string (⟨#[]⟩ : ByteArray), .int .i64 0, .bool false, .int .i64 0]) ?_ 1 _ rfl; (with_reducible repeat (first | refine blk_drewN ?_ _ | refine blk_drew ?_ | refine blk_alloc ?_ _)); refine blk_put (cs := #[.string (⟨#[]⟩ : ByteArray), .int .i64 0, .int .i64 0, .string (⟨#[]⟩ : ByteArray), .int .i64 0, .bool false, .int .i64 0]) ?_ 0 _ rfl; (with_reducible repeat (first | refine blk_drewN ?_ _ | refine blk_drew ?_ | refine blk_alloc ?_ _)); refine blk_far ?_ NB126_125.out _; (with_reducible repeat (first | refine blk_drewN ?_ _ | refine blk_drew ?_ | refine blk_alloc ?_ _)); exact BK126.out) Try.underlying32 rfl (by kernel_rfl)) rfl ?_
        exact ⟨q76_, q42_⟩
       ·rw [if_neg c33] at H
        have c33b0 : decide (a1 < 384) = false := decide_eq_false c33
        clear c33
        by_cases c37 : a1 < 512
        ·rw [if_pos c37] at H
         have c37b0 : decide (a1 < 512) = true := decide_eq_true c37
         clear c37
         by_cases c38 : a0_1 = 1
         ·rw [if_pos c38] at H
          have c38b0 : (a0_1 == 1) = true := beq_iff_eq.mpr c38
          have c38b1 : (a0_1 != 1) = false := bne_eq_false_iff_eq.mpr c38
          clear c38
          simp only [Option.some.injEq, Prod.mk.injEq] at H
          obtain ⟨rfl, rfl, rfl, rfl, rfl, rfl, rfl⟩ := H
          have hnb39 := NB125_126.out
          have hnc39 := NB126_125.out
          have hcz40_0 : wc.cell? ⟨gb125, 0, none⟩ = some (.string a0_0) := bz_ BK125 0
          have hcz40_1 : wc.cell? ⟨gb125, 1, none⟩ = some (.int .i64 a0_1) := bz_ BK125 1
          have hcz40_2 : wc.cell? ⟨gb125, 2, none⟩ = some (.int .i64 a0_2) := bz_ BK125 2
          have hcz40_3 : wc.cell? ⟨gb125, 3, none⟩ = some (.string a0_3) := bz_ BK125 3
          have hcz40_4 : wc.cell? ⟨gb125, 4, none⟩ = some (.int .i64 a0_4) := bz_ BK125 4
          have hcz40_5 : wc.cell? ⟨gb125, 5, none⟩ = some (.bool a0_5) := bz_ BK125 5
          have hcz40_6 : wc.cell? ⟨gb125, 6, none⟩ = some (.int .i64 a0_6) := bz_ BK125 6
          have hfz40_0 := blk_frozen BK125.out 0
          have hfz40_1 := blk_frozen BK125.out 1
          have hfz40_2 := blk_frozen BK125.out 2
          have hfz40_3 := blk_frozen BK125.out 3
          have hfz40_4 := blk_frozen BK125.out 4
          have hfz40_5 := blk_frozen BK125.out 5
          have hfz40_6 := blk_frozen BK125.out 6
          have hcz41_0 : wc.cell? ⟨gb126, 0, none⟩ = some (.string (⟨#[]⟩ : ByteArray)) := bz_ BK126 0
          have hcz41_1 : wc.cell? ⟨gb126, 1, none⟩ = some (.int .i64 0) := bz_ BK126 1
          have hcz41_2 : wc.cell? ⟨gb126, 2, none⟩ = some (.int .i64 0) := bz_ BK126 2
          have hcz41_3 : wc.cell? ⟨gb126, 3, none⟩ = some (.string (⟨#[]⟩ : ByteArray)) := bz_ BK126 3
          have hcz41_4 : wc.cell? ⟨gb126, 4, none⟩ = some (.int .i64 0) := bz_ BK126 4
          have hcz41_5 : wc.cell? ⟨gb126, 5, none⟩ = some (.bool false) := bz_ BK126 5
          have hcz41_6 : wc.cell? ⟨gb126, 6, none⟩ = some (.int .i64 0) := bz_ BK126 6
          have hfz41_0 := blk_frozen BK126.out 0
          have hfz41_1 := blk_frozen BK126.out 1
          have hfz41_2 := blk_frozen BK126.out 2
          have hfz41_3 := blk_frozen BK126.out 3
          have hfz41_4 := blk_frozen BK126.out 4
          have hfz41_5 := blk_frozen BK126.out 5
          have hfz41_6 := blk_frozen BK126.out 6
          go_wp2
          refine bodyPost_ret (results_cell_row rfl _ _ gb126 32 #[.string a0_0, .int .i64 a0_1, .int .i64 a0_2, .string a0_3, .int .i64 a0_4, .bool a0_5, .int .i64 (Int.tmod a2 2)] (0, 0) _ rfl (by (with_reducible repeat (first | refine blk_drewN ?_ _ | refine blk_drew ?_ | refine blk_alloc ?_ _)); refine blk_put (cs := #[.string a0_0, .int .i64 a0_1, .int .i64 a0_2, .string a0_3, .int .i64 a0_4, .bool a0_5, .int .i64 0]) ?_ 6 _ rfl; (with_reducible repeat (first | refine blk_drewN ?_ _ | refine blk_drew ?_ | refine blk_alloc ?_ _)); refine blk_put (cs := #[.string a0_0, .int .i64 a0_1, .int .i64 a0_2, .string a0_3, .int .i64 a0_4, .bool false, .int .i64 0]) ?_ 5 _ rfl; (with_reducible repeat (first | refine blk_drewN ?_ _ | refine blk_drew ?_ | refine blk_alloc ?_ _)); refine blk_put (cs := #[.string a0_0, .int .i64 a0_1, .int .i64 a0_2, .string a0_3, .int .i64 0, .bool false, .int .i64 0]) ?_ 4 _ rfl; (with_reducible repeat (first | refine blk_drewN ?_ _ | refine blk_drew ?_ | refine blk_alloc ?_ _)); refine blk_put (cs := #[.string a0_0, .int .i64 a0_1, .int .i64 a0_2, .string (⟨#[]⟩ : ByteArray), .int .i64 0, .bool false, .int .i64 0]) ?_ 3 _ rfl; (with_reducible repeat (first | refine blk_drewN ?_ _ | refine blk_drew ?_ | refine blk_alloc ?_ _)); refine blk_put (cs := #[.string a0_0, .int .i64 a0_1, .int .i64 0, .string (⟨#[]⟩ : ByteArray), .int .i64 0, .bool false, .int .i64 0]) ?_ 2 _ rfl; (with_reducible repeat (first | refine blk_drewN ?_ _ | refine blk_drew ?_ | refine blk_alloc ?_ _)); refine blk_put (cs := #[.string a0_0, .int .i64 0, .int .i64 0, .string (⟨#[]⟩ : ByteArray), .int .i64 0, .bool false, .int .i64 0]) ?_ 1 _ rfl; (with_reducible repeat (first | refine blk_drewN ?_ _ | refine blk_drew ?_ | refine blk_alloc ?_ _)); refine blk_put (cs := #[.string (⟨#[]⟩ : ByteArray), .int .i64 0, .int .i64 0, .string (⟨#[]⟩ : ByteArray), .int .i64 0, .bool false, .int .i64 0]) ?_ 0 _ rfl; (with_reducible repeat (first | refine blk_drewN ?_ _ | refine blk_drew ?_ | refine blk_alloc ?_ _)); refine blk_far ?_ NB126_125.out _; (with_reducible repeat (first | refine blk_drewN ?_ _ | refine blk_drew ?_ | refine blk_alloc ?_ _)); exact BK126.out) Try.underlying32 rfl (by kernel_rfl)) rfl ?_
          exact ⟨q76_, q42_⟩
         ·rw [if_neg c38] at H
          have c38b0 : (a0_1 == 1) = false := beq_eq_false_iff_ne.mpr c38
          have c38b1 : (a0_1 != 1) = true := bne_iff_ne.mpr c38
          simp only [Option.some.injEq, Prod.mk.injEq] at H
          obtain ⟨rfl, rfl, rfl, rfl, rfl, rfl, rfl⟩ := H
          have hnb42 := NB125_126.out
          have hnc42 := NB126_125.out
          have hcz43_0 : wc.cell? ⟨gb125, 0, none⟩ = some (.string a0_0) := bz_ BK125 0
          have hcz43_1 : wc.cell? ⟨gb125, 1, none⟩ = some (.int .i64 a0_1) := bz_ BK125 1
          have hcz43_2 : wc.cell? ⟨gb125, 2, none⟩ = some (.int .i64 a0_2) := bz_ BK125 2
          have hcz43_3 : wc.cell? ⟨gb125, 3, none⟩ = some (.string a0_3) := bz_ BK125 3
          have hcz43_4 : wc.cell? ⟨gb125, 4, none⟩ = some (.int .i64 a0_4) := bz_ BK125 4
          have hcz43_5 : wc.cell? ⟨gb125, 5, none⟩ = some (.bool a0_5) := bz_ BK125 5
          have hcz43_6 : wc.cell? ⟨gb125, 6, none⟩ = some (.int .i64 a0_6) := bz_ BK125 6
          have hfz43_0 := blk_frozen BK125.out 0
          have hfz43_1 := blk_frozen BK125.out 1
          have hfz43_2 := blk_frozen BK125.out 2
          have hfz43_3 := blk_frozen BK125.out 3
          have hfz43_4 := blk_frozen BK125.out 4
          have hfz43_5 := blk_frozen BK125.out 5
          have hfz43_6 := blk_frozen BK125.out 6
          have hcz44_0 : wc.cell? ⟨gb126, 0, none⟩ = some (.string (⟨#[]⟩ : ByteArray)) := bz_ BK126 0
          have hcz44_1 : wc.cell? ⟨gb126, 1, none⟩ = some (.int .i64 0) := bz_ BK126 1
          have hcz44_2 : wc.cell? ⟨gb126, 2, none⟩ = some (.int .i64 0) := bz_ BK126 2
          have hcz44_3 : wc.cell? ⟨gb126, 3, none⟩ = some (.string (⟨#[]⟩ : ByteArray)) := bz_ BK126 3
          have hcz44_4 : wc.cell? ⟨gb126, 4, none⟩ = some (.int .i64 0) := bz_ BK126 4
          have hcz44_5 : wc.cell? ⟨gb126, 5, none⟩ = some (.bool false) := bz_ BK126 5
          have hcz44_6 : wc.cell? ⟨gb126, 6, none⟩ = some (.int .i64 0) := bz_ BK126 6
          have hfz44_0 := blk_frozen BK126.out 0
          have hfz44_1 := blk_frozen BK126.out 1
          have hfz44_2 := blk_frozen BK126.out 2
          have hfz44_3 := blk_frozen BK126.out 3
          have hfz44_4 := blk_frozen BK126.out 4
          have hfz44_5 := blk_frozen BK126.out 5
          have hfz44_6 := blk_frozen BK126.out 6
          go_wp2
          refine bodyPost_ret (results_cell_row rfl _ _ gb126 32 #[.string a0_0, .int .i64 a0_1, .int .i64 a0_2, .string a0_3, .int .i64 a0_4, .bool a0_5, .int .i64 a0_6] (0, 0) _ rfl q1_ Try.underlying32 rfl (by kernel_rfl)) rfl ?_
          exact ⟨q76_, q42_⟩
        ·rw [if_neg c37] at H
         have c37b0 : decide (a1 < 512) = false := decide_eq_false c37
         clear c37
         have HC45 := Aside0.mk H
         clear H
         go_upto_region 14 with (fail)
         go_cut [50] (fun v50 wc => ∃ (kq : Nat) (x50_44 : Bool), v50 = .bool x50_44 ∧ Aside0 (spec_l5Write.j1 kq a1 a2 x50_44 a0_0 a0_1 a0_2 a0_3 a0_4 a0_5 a0_6 = some (r1, r2, r3, r4, r5, r6, r7)) ∧ Aside0 (kq ≤ kj15) ∧ Aside0 (wc.heap[gb125]? = some (.cells #[.string a0_0, .int .i64 a0_1, .int .i64 a0_2, .string a0_3, .int .i64 a0_4, .bool a0_5, .int .i64 a0_6] 32 (0, 0))) ∧ Aside0 (wc.heap[gb126]? = some (.cells #[.string (⟨#[]⟩ : ByteArray), .int .i64 0, .int .i64 0, .string (⟨#[]⟩ : ByteArray), .int .i64 0, .bool false, .int .i64 0] 32 (0, 0))) ∧ Aside0 (Below w.heap.size w wc))
         case first =>
          have H := HC45.out
          clear HC45
          by_cases c46 : a0_5 = true
          ·subst c46
           replace H : ((spec_l1In.f a1 40960 41023).bind fun t127 => (spec_l5Write.j1 kj15 a1 a2 t127 a0_0 a0_1 a0_2 a0_3 a0_4 true a0_6)) = some (r1, r2, r3, r4, r5, r6, r7) := by rw [if_pos rfl] at H; exact H
           replace H := Option.bind_eq_some_iff.mp H
           obtain ⟨t127, A470, H⟩ := H
           have A47 := Aside0.mk A470
           clear A470
           have H' := Aside0.mk H
           clear H
           have hnb48 := NB125_126.out
           have hnc48 := NB126_125.out
           have hcz49_0 : wc.cell? ⟨gb125, 0, none⟩ = some (.string a0_0) := bz_ BK125 0
           have hcz49_1 : wc.cell? ⟨gb125, 1, none⟩ = some (.int .i64 a0_1) := bz_ BK125 1
           have hcz49_2 : wc.cell? ⟨gb125, 2, none⟩ = some (.int .i64 a0_2) := bz_ BK125 2
           have hcz49_3 : wc.cell? ⟨gb125, 3, none⟩ = some (.string a0_3) := bz_ BK125 3
           have hcz49_4 : wc.cell? ⟨gb125, 4, none⟩ = some (.int .i64 a0_4) := bz_ BK125 4
           have hcz49_5 : wc.cell? ⟨gb125, 5, none⟩ = some (.bool true) := bz_ BK125 5
           have hcz49_6 : wc.cell? ⟨gb125, 6, none⟩ = some (.int .i64 a0_6) := bz_ BK125 6
           have hfz49_0 := blk_frozen BK125.out 0
           have hfz49_1 := blk_frozen BK125.out 1
           have hfz49_2 := blk_frozen BK125.out 2
           have hfz49_3 := blk_frozen BK125.out 3
           have hfz49_4 := blk_frozen BK125.out 4
           have hfz49_5 := blk_frozen BK125.out 5
           have hfz49_6 := blk_frozen BK125.out 6
           go_wp2_with (first | (go_at_call 41; (with_reducible refine (spec_l1In.calls a1 40960 41023 t127 _ A47.out).mono ?_); rintro e w' ⟨rfl, ⟨nd, rfl⟩⟩))
           go_meet
           case rel => exact ⟨_, (t127), q101_, H', ⟨by have := HJ15.out; first | omega | exact Nat.le_refl _⟩, ⟨q80_⟩, ⟨q81_⟩, ⟨q42_⟩⟩
          ·replace c46 := Bool.eq_false_iff.mpr c46
           subst c46
           replace H : (spec_l5Write.j1 kj15 a1 a2 false a0_0 a0_1 a0_2 a0_3 a0_4 false a0_6) = some (r1, r2, r3, r4, r5, r6, r7) := by rw [if_neg (show ¬ (false = true) by decide)] at H; exact H
           have H' := Aside0.mk H
           clear H
           have hnb50 := NB125_126.out
           have hnc50 := NB126_125.out
           have hcz51_0 : wc.cell? ⟨gb125, 0, none⟩ = some (.string a0_0) := bz_ BK125 0
           have hcz51_1 : wc.cell? ⟨gb125, 1, none⟩ = some (.int .i64 a0_1) := bz_ BK125 1
           have hcz51_2 : wc.cell? ⟨gb125, 2, none⟩ = some (.int .i64 a0_2) := bz_ BK125 2
           have hcz51_3 : wc.cell? ⟨gb125, 3, none⟩ = some (.string a0_3) := bz_ BK125 3
           have hcz51_4 : wc.cell? ⟨gb125, 4, none⟩ = some (.int .i64 a0_4) := bz_ BK125 4
           have hcz51_5 : wc.cell? ⟨gb125, 5, none⟩ = some (.bool false) := bz_ BK125 5
           have hcz51_6 : wc.cell? ⟨gb125, 6, none⟩ = some (.int .i64 a0_6) := bz_ BK125 6
           have hfz51_0 := blk_frozen BK125.out 0
           have hfz51_1 := blk_frozen BK125.out 1
           have hfz51_2 := blk_frozen BK125.out 2
           have hfz51_3 := blk_frozen BK125.out 3
           have hfz51_4 := blk_frozen BK125.out 4
           have hfz51_5 := blk_frozen BK125.out 5
           have hfz51_6 := blk_frozen BK125.out 6
           go_wp2
           go_meet
           case rel => exact ⟨_, (false), q101_, H', ⟨by have := HJ15.out; first | omega | exact Nat.le_refl _⟩, ⟨q80_⟩, ⟨q81_⟩, ⟨q42_⟩⟩
         case rest =>
          clear HC45
          try clear c1
          try clear c2
          try clear p2 p2
          try clear c3
          try clear c4
          try clear c4b0
          try clear c4b1
          try clear c5
          try clear c6
          try clear p6 p6
          try clear c7
          try clear c10
          try clear c10b0
          try clear c13
          try clear c19
          try clear c21
          try clear c21b0
          try clear c22
          try clear c24
          try clear c25
          try clear c28
          try clear c28b0
          try clear c30
          try clear c33
          try clear c33b0
          try clear c34
          try clear c37
          try clear c37b0
          try clear c38
          try clear c38b0
          try clear c38b1
          try clear c39
          try clear c42
          try clear c46
          try clear c48
          try clear c50
          try clear hcz14_0 hcz14_1 hcz14_2 hcz14_3 hcz14_4 hcz14_5 hcz14_6
          try clear hcz15_0 hcz15_1 hcz15_2 hcz15_3 hcz15_4 hcz15_5 hcz15_6
          try clear hcz20_0 hcz20_1 hcz20_2 hcz20_3 hcz20_4 hcz20_5 hcz20_6
          try clear hcz23_0 hcz23_1 hcz23_2 hcz23_3 hcz23_4 hcz23_5 hcz23_6
          try clear hcz26_0 hcz26_1 hcz26_2 hcz26_3 hcz26_4 hcz26_5 hcz26_6
          try clear hcz27_0 hcz27_1 hcz27_2 hcz27_3 hcz27_4 hcz27_5 hcz27_6
          try clear hcz31_0 hcz31_1 hcz31_2 hcz31_3 hcz31_4 hcz31_5 hcz31_6
          try clear hcz32_0 hcz32_1 hcz32_2 hcz32_3 hcz32_4 hcz32_5 hcz32_6
          try clear hcz35_0 hcz35_1 hcz35_2 hcz35_3 hcz35_4 hcz35_5 hcz35_6
          try clear hcz36_0 hcz36_1 hcz36_2 hcz36_3 hcz36_4 hcz36_5 hcz36_6
          try clear hcz40_0 hcz40_1 hcz40_2 hcz40_3 hcz40_4 hcz40_5 hcz40_6
          try clear hcz41_0 hcz41_1 hcz41_2 hcz41_3 hcz41_4 hcz41_5 hcz41_6
          try clear hcz43_0 hcz43_1 hcz43_2 hcz43_3 hcz43_4 hcz43_5 hcz43_6
          try clear hcz44_0 hcz44_1 hcz44_2 hcz44_3 hcz44_4 hcz44_5 hcz44_6
          try clear hcz49_0 hcz49_1 hcz49_2 hcz49_3 hcz49_4 hcz49_5 hcz49_6
          try clear hcz51_0 hcz51_1 hcz51_2 hcz51_3 hcz51_4 hcz51_5 hcz51_6
          try clear hcz8_0 hcz8_1 hcz8_2 hcz8_3 hcz8_4 hcz8_5 hcz8_6
          try clear hcz9_0 hcz9_1 hcz9_2 hcz9_3 hcz9_4 hcz9_5 hcz9_6
          try clear hfz14_0 hfz14_1 hfz14_2 hfz14_3 hfz14_4 hfz14_5 hfz14_6
          try clear hfz15_0 hfz15_1 hfz15_2 hfz15_3 hfz15_4 hfz15_5 hfz15_6
          try clear hfz20_0 hfz20_1 hfz20_2 hfz20_3 hfz20_4 hfz20_5 hfz20_6
          try clear hfz23_0 hfz23_1 hfz23_2 hfz23_3 hfz23_4 hfz23_5 hfz23_6
          try clear hfz26_0 hfz26_1 hfz26_2 hfz26_3 hfz26_4 hfz26_5 hfz26_6
          try clear hfz27_0 hfz27_1 hfz27_2 hfz27_3 hfz27_4 hfz27_5 hfz27_6
          try clear hfz31_0 hfz31_1 hfz31_2 hfz31_3 hfz31_4 hfz31_5 hfz31_6
          try clear hfz32_0 hfz32_1 hfz32_2 hfz32_3 hfz32_4 hfz32_5 hfz32_6
          try clear hfz35_0 hfz35_1 hfz35_2 hfz35_3 hfz35_4 hfz35_5 hfz35_6
          try clear hfz36_0 hfz36_1 hfz36_2 hfz36_3 hfz36_4 hfz36_5 hfz36_6
          try clear hfz40_0 hfz40_1 hfz40_2 hfz40_3 hfz40_4 hfz40_5 hfz40_6
          try clear hfz41_0 hfz41_1 hfz41_2 hfz41_3 hfz41_4 hfz41_5 hfz41_6
          try clear hfz43_0 hfz43_1 hfz43_2 hfz43_3 hfz43_4 hfz43_5 hfz43_6
          try clear hfz44_0 hfz44_1 hfz44_2 hfz44_3 hfz44_4 hfz44_5 hfz44_6
          try clear hfz49_0 hfz49_1 hfz49_2 hfz49_3 hfz49_4 hfz49_5 hfz49_6
          try clear hfz51_0 hfz51_1 hfz51_2 hfz51_3 hfz51_4 hfz51_5 hfz51_6
          try clear hfz8_0 hfz8_1 hfz8_2 hfz8_3 hfz8_4 hfz8_5 hfz8_6
          try clear hfz9_0 hfz9_1 hfz9_2 hfz9_3 hfz9_4 hfz9_5 hfz9_6
          obtain ⟨kq, x50_44, rfl, HA, HJ44, BK125, BK126, HB⟩ := hcut
          cases kq with
          | zero => exact absurd HA.out (by simp [spec_l5Write.j1])
          | succ kj44 =>
           have H := HA.out
           clear HA
           simp only [spec_l5Write.j1] at H
           by_cases c52 : x50_44 = true
           ·subst c52
            replace H : ((spec_l5RamBank.f a0_0 a0_1 a0_2 a0_3 a0_4 a0_5 a0_6).bind fun t128 => ((spec_l5Put.f a0_3 (wrap64 ((wrap64 ((wrap64 (t128 * 64)) + a1)) - 40960)) a2).bind fun t129 => (some (a0_0, a0_1, a0_2, t129, a0_4, a0_5, a0_6)))) = some (r1, r2, r3, r4, r5, r6, r7) := by rw [if_pos rfl] at H; exact H
            replace H := Option.bind_eq_some_iff.mp H
            obtain ⟨t128, A530, H⟩ := H
            have A53 := Aside0.mk A530
            clear A530
            replace H := Option.bind_eq_some_iff.mp H
            obtain ⟨t129, A540, H⟩ := H
            have A54 := Aside0.mk A540
            clear A540
            simp only [Option.some.injEq, Prod.mk.injEq] at H
            obtain ⟨rfl, rfl, rfl, rfl, rfl, rfl, rfl⟩ := H
            try go_wp2
            have n0_ := Aside0.mk (blk_drew BK125.out)
            have n1_ := Aside0.mk (blk_drew BK126.out)
            have n2_ := Aside0.mk (below_drew1 HB.out)
            clear BK125
            clear BK126
            clear HB
            have BK125 := n0_
            have BK126 := n1_
            have HB := n2_
            clear n0_ n1_ n2_
            refine start_ (n := 12) (S := fun w' => w'.cell? ⟨gb125, 0, none⟩ = some (.string a0_0) ∧ w'.cell? ⟨gb125, 1, none⟩ = some (.int .i64 a0_1) ∧ w'.cell? ⟨gb125, 2, none⟩ = some (.int .i64 a0_2) ∧ w'.cell? ⟨gb125, 3, none⟩ = some (.string a0_3) ∧ w'.cell? ⟨gb125, 4, none⟩ = some (.int .i64 a0_4) ∧ w'.cell? ⟨gb125, 5, none⟩ = some (.bool a0_5) ∧ w'.cell? ⟨gb125, 6, none⟩ = some (.int .i64 a0_6)) (ds := [11]) #[false, false, false, false, false, false, false, false, false, false, false, false] (by kernel_rfl) rfl rfl ⟨(blk_cell BK125.out 0).trans rfl, (blk_cell BK125.out 1).trans rfl, (blk_cell BK125.out 2).trans rfl, (blk_cell BK125.out 3).trans rfl, (blk_cell BK125.out 4).trans rfl, (blk_cell BK125.out 5).trans rfl, (blk_cell BK125.out 6).trans rfl⟩ (fun hHeld => ?_); refine with_tabW spec_l5Write.tab15 spec_l5Write.bits15 (fun HT_ HW_ => ?_)
            generalize wc.drew = w55 at BK125 BK126 HB hHeld ⊢
            refine pure_ (i := 0) (N := some 57) (v := ?_) (a' := ?_) #[true, false, false, false, false, false, false, false, false, false, false, false] rfl rfl (any_of HT_.out (by kernel_rfl)) (fun _ _ _ h => h) (Or.inl ⟨by rfl, ?_⟩) ?_ ?_
            rotate_left
            ·intro w'
             go_simp
             with_reducible rfl
            rotate_left
            ·simp only [Act.put, List.setIfInBounds_toArray, List.set_cons_zero, List.set_cons_succ, i64_w, i32_w]
             rfl
            refine pure_ (i := 5) (N := some 62) (v := ?_) (a' := ?_) #[true, false, false, false, false, true, false, false, false, false, false, false] rfl rfl (any_of HT_.out (by kernel_rfl)) (fun _ _ _ h => h) (Or.inl ⟨by rfl, ?_⟩) ?_ ?_
            rotate_left
            ·intro w'
             go_simp
             with_reducible rfl
            rotate_left
            ·simp only [Act.put, List.setIfInBounds_toArray, List.set_cons_zero, List.set_cons_succ, i64_w, i32_w]
             rfl
            refine pure_ (i := 8) (N := some 65) (v := ?_) (a' := ?_) #[true, false, false, false, false, true, false, false, true, false, false, false] rfl rfl (any_of HT_.out (by kernel_rfl)) (fun _ _ _ h => h) (Or.inl ⟨by rfl, ?_⟩) ?_ ?_
            rotate_left
            ·intro w'
             go_simp
             with_reducible rfl
            rotate_left
            ·simp only [Act.put, List.setIfInBounds_toArray, List.set_cons_zero, List.set_cons_succ, i64_w, i32_w]
             rfl
            refine take_ (i := 1) (N := some 58) (v := ?_) (a' := ?_) #[true, true, false, false, false, true, false, false, true, false, false, false] rfl rfl (take_ofW HT_.out HW_.out (by kernel_rfl)) (fun _ _ _ h => h) (Or.inl ⟨by rfl, ?_⟩) hHeld ?_ ?_
            rotate_left
            ·rintro w' ⟨s0, s1, s2, s3, s4, s5, s6⟩
             go_simp
             with_reducible rfl
            rotate_left
            ·simp only [Act.put, List.setIfInBounds_toArray, List.set_cons_zero, List.set_cons_succ, i64_w, i32_w]
             rfl
            refine take_ (i := 2) (N := some 59) (v := ?_) (a' := ?_) #[true, true, true, false, false, true, false, false, true, false, false, false] rfl rfl (take_ofW HT_.out HW_.out (by kernel_rfl)) (fun _ _ _ h => h) (Or.inl ⟨by rfl, ?_⟩) hHeld ?_ ?_
            rotate_left
            ·rintro w' ⟨s0, s1, s2, s3, s4, s5, s6⟩
             go_simp
             with_reducible rfl
            rotate_left
            ·simp only [Act.put, List.setIfInBounds_toArray, List.set_cons_zero, List.set_cons_succ, i64_w, i32_w]
             rfl
            refine one_ (i := 3) (N := some 60) #[true, true, true, true, false, true, false, false, true, false, false, false] rfl rfl (one_of HT_.out (by kernel_rfl)) (by decide) (fun K hK => ?_)
            refine goes_ Try.func78 (by kernel_rfl) rfl #[.agg #[.string a0_0, .int .i64 a0_1, .int .i64 a0_2, .string a0_3, .int .i64 a0_4, .bool a0_5, .int .i64 a0_6]] (by rfl) rfl rfl q74_ ?_
            with_reducible refine (spec_l5RamBank.calls a0_0 a0_1 a0_2 a0_3 a0_4 a0_5 a0_6 t128 _ A53.out).mono ?_
            rintro e w56 ⟨rfl, hb⟩
            refine ⟨_, rfl, ?_⟩
            have n0_ := Aside0.mk (blk_below (g := gb125) (o := .cells #[.string a0_0, .int .i64 a0_1, .int .i64 a0_2, .string a0_3, .int .i64 a0_4, .bool a0_5, .int .i64 a0_6] 32 (0, 0)) q80_ hb)
            have n1_ := Aside0.mk (blk_below (g := gb126) (o := .cells #[.string (⟨#[]⟩ : ByteArray), .int .i64 0, .int .i64 0, .string (⟨#[]⟩ : ByteArray), .int .i64 0, .bool false, .int .i64 0] 32 (0, 0)) q81_ hb)
            have n2_ := Aside0.mk (below_step q42_ hb)
            clear BK125
            clear BK126
            clear HB
            have BK125 := n0_
            have BK126 := n1_
            have HB := n2_
            clear n0_ n1_ n2_
            (try clear hb)
            (try clear hb2)
            (try clear hk)
            (try clear hi)
            refine hK.out _ _ ⟨(blk_cell BK125.out 0).trans rfl, (blk_cell BK125.out 1).trans rfl, (blk_cell BK125.out 2).trans rfl, (blk_cell BK125.out 3).trans rfl, (blk_cell BK125.out 4).trans rfl, (blk_cell BK125.out 5).trans rfl, (blk_cell BK125.out 6).trans rfl⟩ (fun hHeld => ?_)
            clear hK K
            refine norm_ (a' := ?_) ?_ ?_
            rotate_left
            ·show Act.put _ (some 60) _ = _
             simp only [Act.put, List.setIfInBounds_toArray, List.set_cons_zero, List.set_cons_succ, i64_w, i32_w]
             rfl
            refine pure_ (i := 4) (N := some 61) (v := ?_) (a' := ?_) #[true, true, true, true, true, true, false, false, true, false, false, false] rfl rfl (any_of HT_.out (by kernel_rfl)) (fun _ _ _ h => h) (Or.inl ⟨by rfl, ?_⟩) ?_ ?_
            rotate_left
            ·intro w'
             go_simp
             with_reducible rfl
            rotate_left
            ·simp only [Act.put, List.setIfInBounds_toArray, List.set_cons_zero, List.set_cons_succ, i64_w, i32_w]
             rfl
            refine pure_ (i := 6) (N := some 63) (v := ?_) (a' := ?_) #[true, true, true, true, true, true, true, false, true, false, false, false] rfl rfl (any_of HT_.out (by kernel_rfl)) (fun _ _ _ h => h) (Or.inl ⟨by rfl, ?_⟩) ?_ ?_
            rotate_left
            ·intro w'
             go_simp
             with_reducible rfl
            rotate_left
            ·simp only [Act.put, List.setIfInBounds_toArray, List.set_cons_zero, List.set_cons_succ, i64_w, i32_w]
             rfl
            refine pure_ (i := 7) (N := some 64) (v := ?_) (a' := ?_) #[true, true, true, true, true, true, true, true, true, false, false, false] rfl rfl (any_of HT_.out (by kernel_rfl)) (fun _ _ _ h => h) (Or.inl ⟨by rfl, ?_⟩) ?_ ?_
            rotate_left
            ·intro w'
             go_simp
             with_reducible rfl
            rotate_left
            ·simp only [Act.put, List.setIfInBounds_toArray, List.set_cons_zero, List.set_cons_succ, i64_w, i32_w]
             rfl
            refine one_ (i := 9) (N := some 66) #[true, true, true, true, true, true, true, true, true, true, false, false] rfl rfl (one_of HT_.out (by kernel_rfl)) (by decide) (fun K hK => ?_)
            refine goes_ Try.func77 (by kernel_rfl) rfl #[.string a0_3, .int .i64 (wrap64 ((wrap64 ((wrap64 (t128 * 64)) + a1)) - 40960)), .int .i64 a2] (by rfl) rfl rfl q74_ ?_
            with_reducible refine (spec_l5Put.calls a0_3 (wrap64 ((wrap64 ((wrap64 (t128 * 64)) + a1)) - 40960)) a2 t129 _ A54.out).mono ?_
            rintro e w57 ⟨rfl, hb⟩
            refine ⟨_, rfl, ?_⟩
            have n0_ := Aside0.mk (blk_below (g := gb125) (o := .cells #[.string a0_0, .int .i64 a0_1, .int .i64 a0_2, .string a0_3, .int .i64 a0_4, .bool a0_5, .int .i64 a0_6] 32 (0, 0)) q80_ hb)
            have n1_ := Aside0.mk (blk_below (g := gb126) (o := .cells #[.string (⟨#[]⟩ : ByteArray), .int .i64 0, .int .i64 0, .string (⟨#[]⟩ : ByteArray), .int .i64 0, .bool false, .int .i64 0] 32 (0, 0)) q81_ hb)
            have n2_ := Aside0.mk (below_step q42_ hb)
            clear BK125
            clear BK126
            clear HB
            have BK125 := n0_
            have BK126 := n1_
            have HB := n2_
            clear n0_ n1_ n2_
            (try clear hb)
            (try clear hb2)
            (try clear hk)
            (try clear hi)
            refine hK.out _ _ ⟨(blk_cell BK125.out 0).trans rfl, (blk_cell BK125.out 1).trans rfl, (blk_cell BK125.out 2).trans rfl, (blk_cell BK125.out 3).trans rfl, (blk_cell BK125.out 4).trans rfl, (blk_cell BK125.out 5).trans rfl, (blk_cell BK125.out 6).trans rfl⟩ (fun hHeld => ?_)
            clear hK K
            refine norm_ (a' := ?_) ?_ ?_
            rotate_left
            ·show Act.put _ (some 66) _ = _
             simp only [Act.put, List.setIfInBounds_toArray, List.set_cons_zero, List.set_cons_succ, i64_w, i32_w]
             rfl
            refine pure_ (i := 10) (N := some 67) (v := ?_) (a' := ?_) #[true, true, true, true, true, true, true, true, true, true, true, false] rfl rfl (any_of HT_.out (by kernel_rfl)) (fun _ _ _ h => h) (Or.inl ⟨by rfl, ?_⟩) ?_ ?_
            rotate_left
            ·intro w'
             go_simp
             with_reducible rfl
            rotate_left
            ·simp only [Act.put, List.setIfInBounds_toArray, List.set_cons_zero, List.set_cons_succ, i64_w, i32_w]
             rfl
            refine last_ (i := 11) (N := none) #[true, true, true, true, true, true, true, true, true, true, true, true] rfl rfl (one_of HT_.out (by kernel_rfl)) (by decide) (fun K hK => ?_)
            have hs58 : w57.cell? ⟨gb125, 3, none⟩ = some (.string a0_3) := bz_ BK125 3
            have hfs58 := blk_frozen BK125.out 3
            have hns58_1 := NB126_125.out
            have hms58_1 := NB125_126.out
            refine skip_ (w1 := ?_) (by rfl) rfl ?_ ?_
            rotate_left
            ·go_simp
             rfl
            refine hK.out _ _ ?_
            clear hK K
            refine done_ (done_of HT_.out (by kernel_rfl)) ?_
            have hnb59 := NB125_126.out
            have hnc59 := NB126_125.out
            have hcz60_0 : w57.cell? ⟨gb125, 0, none⟩ = some (.string a0_0) := bz_ BK125 0
            have hcz60_1 : w57.cell? ⟨gb125, 1, none⟩ = some (.int .i64 a0_1) := bz_ BK125 1
            have hcz60_2 : w57.cell? ⟨gb125, 2, none⟩ = some (.int .i64 a0_2) := bz_ BK125 2
            have hcz60_3 : w57.cell? ⟨gb125, 3, none⟩ = some (.string a0_3) := bz_ BK125 3
            have hcz60_4 : w57.cell? ⟨gb125, 4, none⟩ = some (.int .i64 a0_4) := bz_ BK125 4
            have hcz60_5 : w57.cell? ⟨gb125, 5, none⟩ = some (.bool a0_5) := bz_ BK125 5
            have hcz60_6 : w57.cell? ⟨gb125, 6, none⟩ = some (.int .i64 a0_6) := bz_ BK125 6
            have hfz60_0 := blk_frozen BK125.out 0
            have hfz60_1 := blk_frozen BK125.out 1
            have hfz60_2 := blk_frozen BK125.out 2
            have hfz60_3 := blk_frozen BK125.out 3
            have hfz60_4 := blk_frozen BK125.out 4
            have hfz60_5 := blk_frozen BK125.out 5
            have hfz60_6 := blk_frozen BK125.out 6
            have hcz61_0 : w57.cell? ⟨gb126, 0, none⟩ = some (.string (⟨#[]⟩ : ByteArray)) := bz_ BK126 0
            have hcz61_1 : w57.cell? ⟨gb126, 1, none⟩ = some (.int .i64 0) := bz_ BK126 1
            have hcz61_2 : w57.cell? ⟨gb126, 2, none⟩ = some (.int .i64 0) := bz_ BK126 2
            have hcz61_3 : w57.cell? ⟨gb126, 3, none⟩ = some (.string (⟨#[]⟩ : ByteArray)) := bz_ BK126 3
            have hcz61_4 : w57.cell? ⟨gb126, 4, none⟩ = some (.int .i64 0) := bz_ BK126 4
            have hcz61_5 : w57.cell? ⟨gb126, 5, none⟩ = some (.bool false) := bz_ BK126 5
            have hcz61_6 : w57.cell? ⟨gb126, 6, none⟩ = some (.int .i64 0) := bz_ BK126 6
            have hfz61_0 := blk_frozen BK126.out 0
            have hfz61_1 := blk_frozen BK126.out 1
            have hfz61_2 := blk_frozen BK126.out 2
            have hfz61_3 := blk_frozen BK126.out 3
            have hfz61_4 := blk_frozen BK126.out 4
            have hfz61_5 := blk_frozen BK126.out 5
            have hfz61_6 := blk_frozen BK126.out 6
            try go_wp2
            refine bodyPost_ret (results_cell_row rfl _ _ gb126 32 #[.string a0_0, .int .i64 a0_1, .int .i64 a0_2, .string t129, .int .i64 a0_4, .bool a0_5, .int .i64 a0_6] (0, 0) _ rfl (by (with_reducible repeat (first | refine blk_drewN ?_ _ | refine blk_drew ?_ | refine blk_alloc ?_ _)); refine blk_put (cs := #[.string a0_0, .int .i64 a0_1, .int .i64 a0_2, .string t129, .int .i64 a0_4, .bool a0_5, .int .i64 0]) ?_ 6 _ rfl; (with_reducible repeat (first | refine blk_drewN ?_ _ | refine blk_drew ?_ | refine blk_alloc ?_ _)); refine blk_put (cs := #[.string a0_0, .int .i64 a0_1, .int .i64 a0_2, .string t129, .int .i64 a0_4, .bool false, .int .i64 0]) ?_ 5 _ rfl; (with_reducible repeat (first | refine blk_drewN ?_ _ | refine blk_drew ?_ | refine blk_alloc ?_ _)); refine blk_put (cs := #[.string a0_0, .int .i64 a0_1, .int .i64 a0_2, .string t129, .int .i64 0, .bool false, .int .i64 0]) ?_ 4 _ rfl; (with_reducible repeat (first | refine blk_drewN ?_ _ | refine blk_drew ?_ | refine blk_alloc ?_ _)); refine blk_put (cs := #[.string a0_0, .int .i64 a0_1, .int .i64 a0_2, .string (⟨#[]⟩ : ByteArray), .int .i64 0, .bool false, .int .i64 0]) ?_ 3 _ rfl; (with_reducible repeat (first | refine blk_drewN ?_ _ | refine blk_drew ?_ | refine blk_alloc ?_ _)); refine blk_put (cs := #[.string a0_0, .int .i64 a0_1, .int .i64 0, .string (⟨#[]⟩ : ByteArray), .int .i64 0, .bool false, .int .i64 0]) ?_ 2 _ rfl; (with_reducible repeat (first | refine blk_drewN ?_ _ | refine blk_drew ?_ | refine blk_alloc ?_ _)); refine blk_put (cs := #[.string a0_0, .int .i64 0, .int .i64 0, .string (⟨#[]⟩ : ByteArray), .int .i64 0, .bool false, .int .i64 0]) ?_ 1 _ rfl; (with_reducible repeat (first | refine blk_drewN ?_ _ | refine blk_drew ?_ | refine blk_alloc ?_ _)); refine blk_put (cs := #[.string (⟨#[]⟩ : ByteArray), .int .i64 0, .int .i64 0, .string (⟨#[]⟩ : ByteArray), .int .i64 0, .bool false, .int .i64 0]) ?_ 0 _ rfl; (with_reducible repeat (first | refine blk_drewN ?_ _ | refine blk_drew ?_ | refine blk_alloc ?_ _)); refine blk_far ?_ NB126_125.out _; (with_reducible repeat (first | refine blk_drewN ?_ _ | refine blk_drew ?_ | refine blk_alloc ?_ _)); exact BK126.out) Try.underlying32 rfl (by kernel_rfl)) rfl ?_
            exact ⟨q76_, q42_⟩
           ·replace c52 := Bool.eq_false_iff.mpr c52
            subst c52
            replace H : (some (a0_0, a0_1, a0_2, a0_3, a0_4, a0_5, a0_6)) = some (r1, r2, r3, r4, r5, r6, r7) := by rw [if_neg (show ¬ (false = true) by decide)] at H; exact H
            simp only [Option.some.injEq, Prod.mk.injEq] at H
            obtain ⟨rfl, rfl, rfl, rfl, rfl, rfl, rfl⟩ := H
            have hnb62 := NB125_126.out
            have hnc62 := NB126_125.out
            have hcz63_0 : wc.cell? ⟨gb125, 0, none⟩ = some (.string a0_0) := bz_ BK125 0
            have hcz63_1 : wc.cell? ⟨gb125, 1, none⟩ = some (.int .i64 a0_1) := bz_ BK125 1
            have hcz63_2 : wc.cell? ⟨gb125, 2, none⟩ = some (.int .i64 a0_2) := bz_ BK125 2
            have hcz63_3 : wc.cell? ⟨gb125, 3, none⟩ = some (.string a0_3) := bz_ BK125 3
            have hcz63_4 : wc.cell? ⟨gb125, 4, none⟩ = some (.int .i64 a0_4) := bz_ BK125 4
            have hcz63_5 : wc.cell? ⟨gb125, 5, none⟩ = some (.bool a0_5) := bz_ BK125 5
            have hcz63_6 : wc.cell? ⟨gb125, 6, none⟩ = some (.int .i64 a0_6) := bz_ BK125 6
            have hfz63_0 := blk_frozen BK125.out 0
            have hfz63_1 := blk_frozen BK125.out 1
            have hfz63_2 := blk_frozen BK125.out 2
            have hfz63_3 := blk_frozen BK125.out 3
            have hfz63_4 := blk_frozen BK125.out 4
            have hfz63_5 := blk_frozen BK125.out 5
            have hfz63_6 := blk_frozen BK125.out 6
            have hcz64_0 : wc.cell? ⟨gb126, 0, none⟩ = some (.string (⟨#[]⟩ : ByteArray)) := bz_ BK126 0
            have hcz64_1 : wc.cell? ⟨gb126, 1, none⟩ = some (.int .i64 0) := bz_ BK126 1
            have hcz64_2 : wc.cell? ⟨gb126, 2, none⟩ = some (.int .i64 0) := bz_ BK126 2
            have hcz64_3 : wc.cell? ⟨gb126, 3, none⟩ = some (.string (⟨#[]⟩ : ByteArray)) := bz_ BK126 3
            have hcz64_4 : wc.cell? ⟨gb126, 4, none⟩ = some (.int .i64 0) := bz_ BK126 4
            have hcz64_5 : wc.cell? ⟨gb126, 5, none⟩ = some (.bool false) := bz_ BK126 5
            have hcz64_6 : wc.cell? ⟨gb126, 6, none⟩ = some (.int .i64 0) := bz_ BK126 6
            have hfz64_0 := blk_frozen BK126.out 0
            have hfz64_1 := blk_frozen BK126.out 1
            have hfz64_2 := blk_frozen BK126.out 2
            have hfz64_3 := blk_frozen BK126.out 3
            have hfz64_4 := blk_frozen BK126.out 4
            have hfz64_5 := blk_frozen BK126.out 5
            have hfz64_6 := blk_frozen BK126.out 6
            go_wp2
            refine bodyPost_ret (results_cell_row rfl _ _ gb126 32 #[.string a0_0, .int .i64 a0_1, .int .i64 a0_2, .string a0_3, .int .i64 a0_4, .bool a0_5, .int .i64 a0_6] (0, 0) _ rfl q1_ Try.underlying32 rfl (by kernel_rfl)) rfl ?_
            exact ⟨q76_, q42_⟩
end Go.Proofs.Ytcohcndliaaacaa.QFnCartReads
