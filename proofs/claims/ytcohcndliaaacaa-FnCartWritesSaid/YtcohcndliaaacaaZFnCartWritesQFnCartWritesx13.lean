/- The machine's side of a law, written by a program of this session for this claim. -/
import Derived.Test.YtcohcndliaaacaaZFnCartWritesQq
import Derived.Test.YtcohcndliaaacaaZFnCartWritesQFnCartWritesx0
import Derived.Test.YtcohcndliaaacaaZFnCartWritesQFnCartWritesx12
namespace Go.Proofs.Ytcohcndliaaacaa.QFnCartWrites
open Go.Proofs.Ytcohcndliaaacaa.Qq
open Go.RowKit Go.Proofs.Ytcohcndliaaacaa.LibX Go.Proofs.Ytcohcndliaaacaa.LibC Go.Proofs.YtcohcndliaaacaaW.PrintWords Go.Proofs.YtcohcndliaaacaaW.PrintLast Go.Proofs.YtcohcndliaaacaaW.PrintMore
attribute [local go_sem] max2_int min2_int max_two min_two max_three min_three max_four min_four   -- for this text's walks alone
set_option maxHeartbeats 8000000
set_option maxRecDepth 100000
set_option linter.unusedVariables false
set_option linter.unusedSimpArgs false
mutual
def impl_Cart_written.j0 : Nat → Int → Int → Int → Bool → ByteArray → Int → Int → ByteArray → Int → Bool → Int → Option (ByteArray × Int × Int × ByteArray × Int × Bool × Int)
 | 0, _, _, _, _, _, _, _, _, _, _, _ => none
 | k + 1, x1, x2, x7, x22, x498000, x498001, x498002, x498003, x498004, x498005, x498006 => if x22 = true then (some (x498000, x498001, x2, x498003, x498004, x498005, x498006)) else (if x1 < 256 then (some (x498000, x498001, mx 1 (Int.tmod x2 32), x498003, x498004, x498005, x498006)) else (if x1 < 384 then (some (x498000, x498001, x498002, x498003, Int.tmod x2 4, x498005, x498006)) else (if x1 < 512 then (impl_Cart_written.j1 k x2 x7 (x498001 == 1) x498000 x498001 x498002 x498003 x498004 x498005 x498006) else (impl_Cart_written.j1 k x2 x7 false x498000 x498001 x498002 x498003 x498004 x498005 x498006))))
def impl_Cart_written.j1 : Nat → Int → Int → Bool → ByteArray → Int → Int → ByteArray → Int → Bool → Int → Option (ByteArray × Int × Int × ByteArray × Int × Bool × Int)
 | 0, _, _, _, _, _, _, _, _, _, _ => none
 | k + 1, x2, x7, x45, x498000, x498001, x498002, x498003, x498004, x498005, x498006 => if x45 = true then (some (x498000, x498001, x498002, x498003, x498004, x498005, Int.tmod x2 2)) else (if x7 ≥ 0 then ((impl_replaced.f x498003 x7 x2).bind fun t500 => (some (x498000, x498001, x498002, t500, x498004, x498005, x498006))) else (some (x498000, x498001, x498002, x498003, x498004, x498005, x498006)))
end
def impl_Cart_written.f (k : Nat) (a0_0 : ByteArray) (a0_1 : Int) (a0_2 : Int) (a0_3 : ByteArray) (a0_4 : Int) (a0_5 : Bool) (a0_6 : Int) (a1 : Int) (a2 : Int) : Option (ByteArray × Int × Int × ByteArray × Int × Bool × Int) := if a0_1 = 0 then (some (a0_0, a0_1, a0_2, a0_3, a0_4, a0_5, a0_6)) else ((impl_Cart_ramPlace.f k a0_0 a0_1 a0_2 a0_3 a0_4 a0_5 a0_6 a1).bind fun t499 => (if a1 < 128 then (some (a0_0, a0_1, a0_2, a0_3, a0_4, ((Go.bits .and .i64 a2 15) == 10), a0_6)) else (if a1 < 256 then (impl_Cart_written.j0 k a1 a2 t499 (a0_1 == 2) a0_0 a0_1 a0_2 a0_3 a0_4 a0_5 a0_6) else (impl_Cart_written.j0 k a1 a2 t499 false a0_0 a0_1 a0_2 a0_3 a0_4 a0_5 a0_6))))
theorem impl_Cart_written.mono_l : ∀ k, (∀ y0 y1 y2 y3 y4 y5 y6 y7 y8 y9 y10, LeO (impl_Cart_written.j0 k y0 y1 y2 y3 y4 y5 y6 y7 y8 y9 y10) (impl_Cart_written.j0 (k + 1) y0 y1 y2 y3 y4 y5 y6 y7 y8 y9 y10)) ∧ (∀ y0 y1 y2 y3 y4 y5 y6 y7 y8 y9, LeO (impl_Cart_written.j1 k y0 y1 y2 y3 y4 y5 y6 y7 y8 y9) (impl_Cart_written.j1 (k + 1) y0 y1 y2 y3 y4 y5 y6 y7 y8 y9))
 | 0 => ⟨fun _ _ _ _ _ _ _ _ _ _ _ r h => by simp [impl_Cart_written.j0] at h, fun _ _ _ _ _ _ _ _ _ _ r h => by simp [impl_Cart_written.j1] at h⟩
 | k + 1 => by
  obtain ⟨ih0, ih1⟩ := impl_Cart_written.mono_l k
  refine ⟨?_, ?_⟩
  ·intro y0 y1 y2 y3 y4 y5 y6 y7 y8 y9 y10
   unfold impl_Cart_written.j0
   repeat' first
   | (with_reducible first | exact ih0 _ _ _ _ _ _ _ _ _ _ _ | exact ih1 _ _ _ _ _ _ _ _ _ _ | exact impl_Cart_ramPlace.mono _ _ _ _ _ _ _ _ _ | exact LeO.refl _ | exact LeO.none _ | refine LeO.ite ?_ ?_ | refine LeO.bind ?_ (fun _ => ?_))
   | exact ih0 _ _ _ _ _ _ _ _ _ _ _
   | exact ih1 _ _ _ _ _ _ _ _ _ _
   | exact impl_Cart_ramPlace.mono _ _ _ _ _ _ _ _ _
   | exact LeO.none _
   | refine LeO.ite ?_ ?_
   | refine LeO.bind ?_ (fun _ => ?_)
  ·intro y0 y1 y2 y3 y4 y5 y6 y7 y8 y9
   unfold impl_Cart_written.j1
   repeat' first
   | (with_reducible first | exact ih0 _ _ _ _ _ _ _ _ _ _ _ | exact ih1 _ _ _ _ _ _ _ _ _ _ | exact impl_Cart_ramPlace.mono _ _ _ _ _ _ _ _ _ | exact LeO.refl _ | exact LeO.none _ | refine LeO.ite ?_ ?_ | refine LeO.bind ?_ (fun _ => ?_))
   | exact ih0 _ _ _ _ _ _ _ _ _ _ _
   | exact ih1 _ _ _ _ _ _ _ _ _ _
   | exact impl_Cart_ramPlace.mono _ _ _ _ _ _ _ _ _
   | exact LeO.none _
   | refine LeO.ite ?_ ?_
   | refine LeO.bind ?_ (fun _ => ?_)
theorem impl_Cart_written.mono : ∀ a0 a1 a2 a3 a4 a5 a6 a7 a8 k, LeO (impl_Cart_written.f k a0 a1 a2 a3 a4 a5 a6 a7 a8) (impl_Cart_written.f (k + 1) a0 a1 a2 a3 a4 a5 a6 a7 a8) := by
 intro a0 a1 a2 a3 a4 a5 a6 a7 a8 k
 obtain ⟨ih0, ih1⟩ := impl_Cart_written.mono_l k
 unfold impl_Cart_written.f
 repeat' first
   | (with_reducible first | exact ih0 _ _ _ _ _ _ _ _ _ _ _ | exact ih1 _ _ _ _ _ _ _ _ _ _ | exact impl_Cart_ramPlace.mono _ _ _ _ _ _ _ _ _ | exact LeO.refl _ | exact LeO.none _ | refine LeO.ite ?_ ?_ | refine LeO.bind ?_ (fun _ => ?_))
   | exact ih0 _ _ _ _ _ _ _ _ _ _ _
   | exact ih1 _ _ _ _ _ _ _ _ _ _
   | exact impl_Cart_ramPlace.mono _ _ _ _ _ _ _ _ _
   | exact LeO.none _
   | refine LeO.ite ?_ ?_
   | refine LeO.bind ?_ (fun _ => ?_)
theorem impl_Cart_written.calls (k : Nat) (a0_0 : ByteArray) (a0_1 : Int) (a0_2 : Int) (a0_3 : ByteArray) (a0_4 : Int) (a0_5 : Bool) (a0_6 : Int) (a1 : Int) (a2 : Int) (r1 : ByteArray) (r2 : Int) (r3 : Int) (r4 : ByteArray) (r5 : Int) (r6 : Bool) (r7 : Int) (w : World) (h : impl_Cart_written.f k a0_0 a0_1 a0_2 a0_3 a0_4 a0_5 a0_6 a1 a2 = some (r1, r2, r3, r4, r5, r6, r7)) :
  Calls Try.prog 61 #[.agg #[.string a0_0, .int .i64 a0_1, .int .i64 a0_2, .string a0_3, .int .i64 a0_4, .bool a0_5, .int .i64 a0_6], .int .i64 a1, .int .i64 a2] w fun e w' => e = .returned (.agg #[.string r1, .int .i64 r2, .int .i64 r3, .string r4, .int .i64 r5, .bool r6, .int .i64 r7]) ∧ Below w.heap.size w w' := by
 have hu32 := Try.underlying32
 have HB := Aside0.mk (Below.refl w.heap.size w)
 have H : (if a0_1 = 0 then (some (a0_0, a0_1, a0_2, a0_3, a0_4, a0_5, a0_6)) else ((impl_Cart_ramPlace.f k a0_0 a0_1 a0_2 a0_3 a0_4 a0_5 a0_6 a1).bind fun t499 => (if a1 < 128 then (some (a0_0, a0_1, a0_2, a0_3, a0_4, ((Go.bits .and .i64 a2 15) == 10), a0_6)) else (if a1 < 256 then (impl_Cart_written.j0 k a1 a2 t499 (a0_1 == 2) a0_0 a0_1 a0_2 a0_3 a0_4 a0_5 a0_6) else (impl_Cart_written.j0 k a1 a2 t499 false a0_0 a0_1 a0_2 a0_3 a0_4 a0_5 a0_6))))) = some (r1, r2, r3, r4, r5, r6, r7) := h
 clear h
 by_cases c4 : a0_1 = 0
 ·rw [if_pos c4] at H
  have c4b0 : (a0_1 == 0) = true := beq_iff_eq.mpr c4
  have c4b1 : (a0_1 != 0) = false := bne_eq_false_iff_eq.mpr c4
  clear c4
  simp only [Option.some.injEq, Prod.mk.injEq] at H
  obtain ⟨rfl, rfl, rfl, rfl, rfl, rfl, rfl⟩ := H
  go_enter Try.func61, Try.ntmps61
  go_wp2_with (first | ((with_reducible refine gate_dst (N := 3) rfl ?_); refine box_event ?hg (N := 3) ?hd (cs := #[.string a0_0, .int .i64 a0_1, .int .i64 a0_2, .string a0_3, .int .i64 a0_4, .bool a0_5, .int .i64 a0_6]) (t := 32) ?hr ?_; (case hd => rfl); (case hg => rfl); (case hr => exact q175_); intro gb497 hg w5 hbox hb; have n0_ := Aside0.mk (below_step q102_ hb); have n1_ := Aside0.mk (hbox); have n2_ := Aside0.mk ((q80_ : w.heap.size ≤ gb497)); have n3_ := Aside0.mk ((q80_ : w.heap.size ≤ gb497)); clear HB; have HB := n0_; have BK497 := n1_; have GW497 := n2_; have GE497 := n3_; clear n0_ n1_ n2_ n3_; clear hb hbox hg) | ((with_reducible refine gate_dst (N := 6) rfl ?_); refine box_event ?hg (N := 6) ?hd (cs := #[.string (⟨#[]⟩ : ByteArray), .int .i64 0, .int .i64 0, .string (⟨#[]⟩ : ByteArray), .int .i64 0, .bool false, .int .i64 0]) (t := 32) ?hr ?_; (case hd => rfl); (case hg => rfl); (case hr => exact q175_); intro gb498 hg w6 hbox hb; have n0_ := Aside0.mk (blk_below (g := gb497) (o := .cells #[.string a0_0, .int .i64 a0_1, .int .i64 a0_2, .string a0_3, .int .i64 a0_4, .bool a0_5, .int .i64 a0_6] 32 (0, 0)) q122_ hb); have n1_ := Aside0.mk (below_step q90_ hb); have n2_ := Aside0.mk (hbox); have n3_ := Aside0.mk ((q63_ : w.heap.size ≤ gb498)); have n4_ := Aside0.mk ((q63_ : w.heap.size ≤ gb498)); have n5_ := Aside0.mk ((q24_ : gb497 ≠ gb498)); have n6_ := Aside0.mk ((q25_ : gb498 ≠ gb497)); clear BK497; clear HB; have BK497 := n0_; have HB := n1_; have BK498 := n2_; have GW498 := n3_; have GE498 := n4_; have NB497_498 := n5_; have NB498_497 := n6_; clear n0_ n1_ n2_ n3_ n4_ n5_ n6_; clear hb hbox hg; have hnb7 := NB497_498.out; have hnc7 := NB498_497.out; have hcz8_0 : w6.cell? ⟨gb497, 0, none⟩ = some (.string a0_0) := (blk_cell BK497.out 0).trans rfl; have hcz8_1 : w6.cell? ⟨gb497, 1, none⟩ = some (.int .i64 a0_1) := (blk_cell BK497.out 1).trans rfl; have hcz8_2 : w6.cell? ⟨gb497, 2, none⟩ = some (.int .i64 a0_2) := (blk_cell BK497.out 2).trans rfl; have hcz8_3 : w6.cell? ⟨gb497, 3, none⟩ = some (.string a0_3) := (blk_cell BK497.out 3).trans rfl; have hcz8_4 : w6.cell? ⟨gb497, 4, none⟩ = some (.int .i64 a0_4) := (blk_cell BK497.out 4).trans rfl; have hcz8_5 : w6.cell? ⟨gb497, 5, none⟩ = some (.bool a0_5) := (blk_cell BK497.out 5).trans rfl; have hcz8_6 : w6.cell? ⟨gb497, 6, none⟩ = some (.int .i64 a0_6) := (blk_cell BK497.out 6).trans rfl; have hfz8_0 := blk_frozen BK497.out 0; have hfz8_1 := blk_frozen BK497.out 1; have hfz8_2 := blk_frozen BK497.out 2; have hfz8_3 := blk_frozen BK497.out 3; have hfz8_4 := blk_frozen BK497.out 4; have hfz8_5 := blk_frozen BK497.out 5; have hfz8_6 := blk_frozen BK497.out 6; have hcz9_0 : w6.cell? ⟨gb498, 0, none⟩ = some (.string (⟨#[]⟩ : ByteArray)) := (blk_cell BK498.out 0).trans rfl; have hcz9_1 : w6.cell? ⟨gb498, 1, none⟩ = some (.int .i64 0) := (blk_cell BK498.out 1).trans rfl; have hcz9_2 : w6.cell? ⟨gb498, 2, none⟩ = some (.int .i64 0) := (blk_cell BK498.out 2).trans rfl; have hcz9_3 : w6.cell? ⟨gb498, 3, none⟩ = some (.string (⟨#[]⟩ : ByteArray)) := (blk_cell BK498.out 3).trans rfl; have hcz9_4 : w6.cell? ⟨gb498, 4, none⟩ = some (.int .i64 0) := (blk_cell BK498.out 4).trans rfl; have hcz9_5 : w6.cell? ⟨gb498, 5, none⟩ = some (.bool false) := (blk_cell BK498.out 5).trans rfl; have hcz9_6 : w6.cell? ⟨gb498, 6, none⟩ = some (.int .i64 0) := (blk_cell BK498.out 6).trans rfl; have hfz9_0 := blk_frozen BK498.out 0; have hfz9_1 := blk_frozen BK498.out 1; have hfz9_2 := blk_frozen BK498.out 2; have hfz9_3 := blk_frozen BK498.out 3; have hfz9_4 := blk_frozen BK498.out 4; have hfz9_5 := blk_frozen BK498.out 5; have hfz9_6 := blk_frozen BK498.out 6))
  refine bodyPost_ret (results_cell_row rfl _ _ gb498 32 #[.string a0_0, .int .i64 a0_1, .int .i64 a0_2, .string a0_3, .int .i64 a0_4, .bool a0_5, .int .i64 a0_6] (0, 0) _ rfl q5_ Try.underlying32 rfl (by kernel_rfl)) rfl ?_
  exact ⟨q103_, q70_⟩
 ·rw [if_neg c4] at H
  have c4b0 : (a0_1 == 0) = false := beq_eq_false_iff_ne.mpr c4
  have c4b1 : (a0_1 != 0) = true := bne_iff_ne.mpr c4
  replace H := Option.bind_eq_some_iff.mp H
  obtain ⟨t499, A100, H⟩ := H
  have A10 := Aside0.mk A100
  clear A100
  by_cases c11 : a1 < 128
  ·rw [if_pos c11] at H
   have c11b0 : decide (a1 < 128) = true := decide_eq_true c11
   clear c11
   simp only [Option.some.injEq, Prod.mk.injEq] at H
   obtain ⟨rfl, rfl, rfl, rfl, rfl, rfl, rfl⟩ := H
   go_enter Try.func61, Try.ntmps61
   go_wp2_with (first | ((with_reducible refine gate_dst (N := 3) rfl ?_); refine box_event ?hg (N := 3) ?hd (cs := #[.string a0_0, .int .i64 a0_1, .int .i64 a0_2, .string a0_3, .int .i64 a0_4, .bool a0_5, .int .i64 a0_6]) (t := 32) ?hr ?_; (case hd => rfl); (case hg => rfl); (case hr => exact q175_); intro gb497 hg w12 hbox hb; have n0_ := Aside0.mk (below_step q102_ hb); have n1_ := Aside0.mk (hbox); have n2_ := Aside0.mk ((q80_ : w.heap.size ≤ gb497)); have n3_ := Aside0.mk ((q80_ : w.heap.size ≤ gb497)); clear HB; have HB := n0_; have BK497 := n1_; have GW497 := n2_; have GE497 := n3_; clear n0_ n1_ n2_ n3_; clear hb hbox hg) | ((with_reducible refine gate_dst (N := 6) rfl ?_); refine box_event ?hg (N := 6) ?hd (cs := #[.string (⟨#[]⟩ : ByteArray), .int .i64 0, .int .i64 0, .string (⟨#[]⟩ : ByteArray), .int .i64 0, .bool false, .int .i64 0]) (t := 32) ?hr ?_; (case hd => rfl); (case hg => rfl); (case hr => exact q175_); intro gb498 hg w13 hbox hb; have n0_ := Aside0.mk (blk_below (g := gb497) (o := .cells #[.string a0_0, .int .i64 a0_1, .int .i64 a0_2, .string a0_3, .int .i64 a0_4, .bool a0_5, .int .i64 a0_6] 32 (0, 0)) q122_ hb); have n1_ := Aside0.mk (below_step q90_ hb); have n2_ := Aside0.mk (hbox); have n3_ := Aside0.mk ((q63_ : w.heap.size ≤ gb498)); have n4_ := Aside0.mk ((q63_ : w.heap.size ≤ gb498)); have n5_ := Aside0.mk ((q24_ : gb497 ≠ gb498)); have n6_ := Aside0.mk ((q25_ : gb498 ≠ gb497)); clear BK497; clear HB; have BK497 := n0_; have HB := n1_; have BK498 := n2_; have GW498 := n3_; have GE498 := n4_; have NB497_498 := n5_; have NB498_497 := n6_; clear n0_ n1_ n2_ n3_ n4_ n5_ n6_; clear hb hbox hg; have hnb14 := NB497_498.out; have hnc14 := NB498_497.out; have hcz15_0 : w13.cell? ⟨gb497, 0, none⟩ = some (.string a0_0) := (blk_cell BK497.out 0).trans rfl; have hcz15_1 : w13.cell? ⟨gb497, 1, none⟩ = some (.int .i64 a0_1) := (blk_cell BK497.out 1).trans rfl; have hcz15_2 : w13.cell? ⟨gb497, 2, none⟩ = some (.int .i64 a0_2) := (blk_cell BK497.out 2).trans rfl; have hcz15_3 : w13.cell? ⟨gb497, 3, none⟩ = some (.string a0_3) := (blk_cell BK497.out 3).trans rfl; have hcz15_4 : w13.cell? ⟨gb497, 4, none⟩ = some (.int .i64 a0_4) := (blk_cell BK497.out 4).trans rfl; have hcz15_5 : w13.cell? ⟨gb497, 5, none⟩ = some (.bool a0_5) := (blk_cell BK497.out 5).trans rfl; have hcz15_6 : w13.cell? ⟨gb497, 6, none⟩ = some (.int .i64 a0_6) := (blk_cell BK497.out 6).trans rfl; have hfz15_0 := blk_frozen BK497.out 0; have hfz15_1 := blk_frozen BK497.out 1; have hfz15_2 := blk_frozen BK497.out 2; have hfz15_3 := blk_frozen BK497.out 3; have hfz15_4 := blk_frozen BK497.out 4; have hfz15_5 := blk_frozen BK497.out 5; have hfz15_6 := blk_frozen BK497.out 6) | ((with_reducible refine gate_callee (f := 75) rfl ?_); refine goesL_ (some 14) rfl rfl Try.func75 (by kernel_rfl) rfl #[.agg #[.string a0_0, .int .i64 a0_1, .int .i64 a0_2, .string a0_3, .int .i64 a0_4, .bool a0_5, .int .i64 a0_6], .int .i64 a1] rfl q101_ ?_; (with_reducible refine (impl_Cart_ramPlace.calls k a0_0 a0_1 a0_2 a0_3 a0_4 a0_5 a0_6 a1 t499 _ A10.out).mono ?_); rintro e w16 ⟨rfl, hb⟩; refine ⟨_, rfl, ?_⟩; have n0_ := Aside0.mk (blk_below (g := gb497) (o := .cells #[.string a0_0, .int .i64 a0_1, .int .i64 a0_2, .string a0_3, .int .i64 a0_4, .bool a0_5, .int .i64 a0_6] 32 (0, 0)) q122_ hb); have n1_ := Aside0.mk (blk_below (g := gb498) (o := .cells #[.string (⟨#[]⟩ : ByteArray), .int .i64 0, .int .i64 0, .string (⟨#[]⟩ : ByteArray), .int .i64 0, .bool false, .int .i64 0] 32 (0, 0)) q123_ hb); have n2_ := Aside0.mk (below_step q70_ hb); clear BK497; clear BK498; clear HB; have BK497 := n0_; have BK498 := n1_; have HB := n2_; clear n0_ n1_ n2_; (try clear hb); have hcz17_0 : w16.cell? ⟨gb497, 0, none⟩ = some (.string a0_0) := (blk_cell BK497.out 0).trans rfl; have hcz17_1 : w16.cell? ⟨gb497, 1, none⟩ = some (.int .i64 a0_1) := (blk_cell BK497.out 1).trans rfl; have hcz17_2 : w16.cell? ⟨gb497, 2, none⟩ = some (.int .i64 a0_2) := (blk_cell BK497.out 2).trans rfl; have hcz17_3 : w16.cell? ⟨gb497, 3, none⟩ = some (.string a0_3) := (blk_cell BK497.out 3).trans rfl; have hcz17_4 : w16.cell? ⟨gb497, 4, none⟩ = some (.int .i64 a0_4) := (blk_cell BK497.out 4).trans rfl; have hcz17_5 : w16.cell? ⟨gb497, 5, none⟩ = some (.bool a0_5) := (blk_cell BK497.out 5).trans rfl; have hcz17_6 : w16.cell? ⟨gb497, 6, none⟩ = some (.int .i64 a0_6) := (blk_cell BK497.out 6).trans rfl; have hfz17_0 := blk_frozen BK497.out 0; have hfz17_1 := blk_frozen BK497.out 1; have hfz17_2 := blk_frozen BK497.out 2; have hfz17_3 := blk_frozen BK497.out 3; have hfz17_4 := blk_frozen BK497.out 4; have hfz17_5 := blk_frozen BK497.out 5; have hfz17_6 := blk_frozen BK497.out 6; have hcz18_0 : w16.cell? ⟨gb498, 0, none⟩ = some (.string (⟨#[]⟩ : ByteArray)) := (blk_cell BK498.out 0).trans rfl; have hcz18_1 : w16.cell? ⟨gb498, 1, none⟩ = some (.int .i64 0) := (blk_cell BK498.out 1).trans rfl; have hcz18_2 : w16.cell? ⟨gb498, 2, none⟩ = some (.int .i64 0) := (blk_cell BK498.out 2).trans rfl; have hcz18_3 : w16.cell? ⟨gb498, 3, none⟩ = some (.string (⟨#[]⟩ : ByteArray)) := (blk_cell BK498.out 3).trans rfl; have hcz18_4 : w16.cell? ⟨gb498, 4, none⟩ = some (.int .i64 0) := (blk_cell BK498.out 4).trans rfl; have hcz18_5 : w16.cell? ⟨gb498, 5, none⟩ = some (.bool false) := (blk_cell BK498.out 5).trans rfl; have hcz18_6 : w16.cell? ⟨gb498, 6, none⟩ = some (.int .i64 0) := (blk_cell BK498.out 6).trans rfl; have hfz18_0 := blk_frozen BK498.out 0; have hfz18_1 := blk_frozen BK498.out 1; have hfz18_2 := blk_frozen BK498.out 2; have hfz18_3 := blk_frozen BK498.out 3; have hfz18_4 := blk_frozen BK498.out 4; have hfz18_5 := blk_frozen BK498.out 5; have hfz18_6 := blk_frozen BK498.out 6))
   refine bodyPost_ret (results_cell_row rfl _ _ gb498 32 #[.string a0_0, .int .i64 a0_1, .int .i64 a0_2, .string a0_3, .int .i64 a0_4, .bool ((Go.bits .and .i64 a2 15) == 10), .int .i64 a0_6] (0, 0) _ rfl (by (with_reducible repeat (first | refine blk_drewN ?_ _ | refine blk_drew ?_ | refine blk_alloc ?_ _)); refine blk_put (cs := #[.string a0_0, .int .i64 a0_1, .int .i64 a0_2, .string a0_3, .int .i64 a0_4, .bool ((Go.bits .and .i64 a2 15) == 10), .int .i64 0]) ?_ 6 _ rfl; (with_reducible repeat (first | refine blk_drewN ?_ _ | refine blk_drew ?_ | refine blk_alloc ?_ _)); refine blk_put (cs := #[.string a0_0, .int .i64 a0_1, .int .i64 a0_2, .string a0_3, .int .i64 a0_4, .bool false, .int .i64 0]) ?_ 5 _ rfl; (with_reducible repeat (first | refine blk_drewN ?_ _ | refine blk_drew ?_ | refine blk_alloc ?_ _)); refine blk_put (cs := #[.string a0_0, .int .i64 a0_1, .int .i64 a0_2, .string a0_3, .int .i64 0, .bool false, .int .i64 0]) ?_ 4 _ rfl; (with_reducible repeat (first | refine blk_drewN ?_ _ | refine blk_drew ?_ | refine blk_alloc ?_ _)); refine blk_put (cs := #[.string a0_0, .int .i64 a0_1, .int .i64 a0_2, .string (⟨#[]⟩ : ByteArray), .int .i64 0, .bool false, .int .i64 0]) ?_ 3 _ rfl; (with_reducible repeat (first | refine blk_drewN ?_ _ | refine blk_drew ?_ | refine blk_alloc ?_ _)); refine blk_put (cs := #[.string a0_0, .int .i64 a0_1, .int .i64 0, .string (⟨#[]⟩ : ByteArray), .int .i64 0, .bool false, .int .i64 0]) ?_ 2 _ rfl; (with_reducible repeat (first | refine blk_drewN ?_ _ | refine blk_drew ?_ | refine blk_alloc ?_ _)); refine blk_put (cs := #[.string a0_0, .int .i64 0, .int .i64 0, .string (⟨#[]⟩ : ByteArray), .int .i64 0, .bool false, .int .i64 0]) ?_ 1 _ rfl; (with_reducible repeat (first | refine blk_drewN ?_ _ | refine blk_drew ?_ | refine blk_alloc ?_ _)); refine blk_put (cs := #[.string (⟨#[]⟩ : ByteArray), .int .i64 0, .int .i64 0, .string (⟨#[]⟩ : ByteArray), .int .i64 0, .bool false, .int .i64 0]) ?_ 0 _ rfl; (with_reducible repeat (first | refine blk_drewN ?_ _ | refine blk_drew ?_ | refine blk_alloc ?_ _)); refine blk_far ?_ NB498_497.out _; (with_reducible repeat (first | refine blk_drewN ?_ _ | refine blk_drew ?_ | refine blk_alloc ?_ _)); exact BK498.out) Try.underlying32 rfl (by kernel_rfl)) rfl ?_
   exact ⟨q103_, q70_⟩
  ·rw [if_neg c11] at H
   have c11b0 : decide (a1 < 128) = false := decide_eq_false c11
   clear c11
   have HC19 := Aside0.mk H
   clear H
   go_enter Try.func61, Try.ntmps61
   go_upto_region 6 with (first | ((with_reducible refine gate_dst (N := 3) rfl ?_); refine box_event ?hg (N := 3) ?hd (cs := #[.string a0_0, .int .i64 a0_1, .int .i64 a0_2, .string a0_3, .int .i64 a0_4, .bool a0_5, .int .i64 a0_6]) (t := 32) ?hr ?_; (case hd => rfl); (case hg => rfl); (case hr => exact q175_); intro gb497 hg w20 hbox hb; have n0_ := Aside0.mk (below_step q102_ hb); have n1_ := Aside0.mk (hbox); have n2_ := Aside0.mk ((q80_ : w.heap.size ≤ gb497)); have n3_ := Aside0.mk ((q80_ : w.heap.size ≤ gb497)); clear HB; have HB := n0_; have BK497 := n1_; have GW497 := n2_; have GE497 := n3_; clear n0_ n1_ n2_ n3_; clear hb hbox hg) | ((with_reducible refine gate_dst (N := 6) rfl ?_); refine box_event ?hg (N := 6) ?hd (cs := #[.string (⟨#[]⟩ : ByteArray), .int .i64 0, .int .i64 0, .string (⟨#[]⟩ : ByteArray), .int .i64 0, .bool false, .int .i64 0]) (t := 32) ?hr ?_; (case hd => rfl); (case hg => rfl); (case hr => exact q175_); intro gb498 hg w21 hbox hb; have n0_ := Aside0.mk (blk_below (g := gb497) (o := .cells #[.string a0_0, .int .i64 a0_1, .int .i64 a0_2, .string a0_3, .int .i64 a0_4, .bool a0_5, .int .i64 a0_6] 32 (0, 0)) q122_ hb); have n1_ := Aside0.mk (below_step q90_ hb); have n2_ := Aside0.mk (hbox); have n3_ := Aside0.mk ((q63_ : w.heap.size ≤ gb498)); have n4_ := Aside0.mk ((q63_ : w.heap.size ≤ gb498)); have n5_ := Aside0.mk ((q24_ : gb497 ≠ gb498)); have n6_ := Aside0.mk ((q25_ : gb498 ≠ gb497)); clear BK497; clear HB; have BK497 := n0_; have HB := n1_; have BK498 := n2_; have GW498 := n3_; have GE498 := n4_; have NB497_498 := n5_; have NB498_497 := n6_; clear n0_ n1_ n2_ n3_ n4_ n5_ n6_; clear hb hbox hg; have hnb22 := NB497_498.out; have hnc22 := NB498_497.out; have hcz23_0 : w21.cell? ⟨gb497, 0, none⟩ = some (.string a0_0) := (blk_cell BK497.out 0).trans rfl; have hcz23_1 : w21.cell? ⟨gb497, 1, none⟩ = some (.int .i64 a0_1) := (blk_cell BK497.out 1).trans rfl; have hcz23_2 : w21.cell? ⟨gb497, 2, none⟩ = some (.int .i64 a0_2) := (blk_cell BK497.out 2).trans rfl; have hcz23_3 : w21.cell? ⟨gb497, 3, none⟩ = some (.string a0_3) := (blk_cell BK497.out 3).trans rfl; have hcz23_4 : w21.cell? ⟨gb497, 4, none⟩ = some (.int .i64 a0_4) := (blk_cell BK497.out 4).trans rfl; have hcz23_5 : w21.cell? ⟨gb497, 5, none⟩ = some (.bool a0_5) := (blk_cell BK497.out 5).trans rfl; have hcz23_6 : w21.cell? ⟨gb497, 6, none⟩ = some (.int .i64 a0_6) := (blk_cell BK497.out 6).trans rfl; have hfz23_0 := blk_frozen BK497.out 0; have hfz23_1 := blk_frozen BK497.out 1; have hfz23_2 := blk_frozen BK497.out 2; have hfz23_3 := blk_frozen BK497.out 3; have hfz23_4 := blk_frozen BK497.out 4; have hfz23_5 := blk_frozen BK497.out 5; have hfz23_6 := blk_frozen BK497.out 6) | ((with_reducible refine gate_callee (f := 75) rfl ?_); refine goesL_ (some 14) rfl rfl Try.func75 (by kernel_rfl) rfl #[.agg #[.string a0_0, .int .i64 a0_1, .int .i64 a0_2, .string a0_3, .int .i64 a0_4, .bool a0_5, .int .i64 a0_6], .int .i64 a1] rfl q101_ ?_; (with_reducible refine (impl_Cart_ramPlace.calls k a0_0 a0_1 a0_2 a0_3 a0_4 a0_5 a0_6 a1 t499 _ A10.out).mono ?_); rintro e w24 ⟨rfl, hb⟩; refine ⟨_, rfl, ?_⟩; have n0_ := Aside0.mk (blk_below (g := gb497) (o := .cells #[.string a0_0, .int .i64 a0_1, .int .i64 a0_2, .string a0_3, .int .i64 a0_4, .bool a0_5, .int .i64 a0_6] 32 (0, 0)) q122_ hb); have n1_ := Aside0.mk (blk_below (g := gb498) (o := .cells #[.string (⟨#[]⟩ : ByteArray), .int .i64 0, .int .i64 0, .string (⟨#[]⟩ : ByteArray), .int .i64 0, .bool false, .int .i64 0] 32 (0, 0)) q123_ hb); have n2_ := Aside0.mk (below_step q70_ hb); clear BK497; clear BK498; clear HB; have BK497 := n0_; have BK498 := n1_; have HB := n2_; clear n0_ n1_ n2_; (try clear hb)))
   (try simp only [Act.put, List.setIfInBounds_toArray, List.set_cons_zero, List.set_cons_succ])
   go_cut [22] (fun v22 wc => ∃ (kq : Nat) (x22_18 : Bool), v22 = .bool x22_18 ∧ Aside0 (impl_Cart_written.j0 kq a1 a2 t499 x22_18 a0_0 a0_1 a0_2 a0_3 a0_4 a0_5 a0_6 = some (r1, r2, r3, r4, r5, r6, r7)) ∧ Aside0 (kq ≤ k) ∧ Aside0 (wc.heap[gb497]? = some (.cells #[.string a0_0, .int .i64 a0_1, .int .i64 a0_2, .string a0_3, .int .i64 a0_4, .bool a0_5, .int .i64 a0_6] 32 (0, 0))) ∧ Aside0 (wc.heap[gb498]? = some (.cells #[.string (⟨#[]⟩ : ByteArray), .int .i64 0, .int .i64 0, .string (⟨#[]⟩ : ByteArray), .int .i64 0, .bool false, .int .i64 0] 32 (0, 0))) ∧ Aside0 (Below w.heap.size w wc))
   case first =>
    have H := HC19.out
    clear HC19
    by_cases c25 : a1 < 256
    ·rw [if_pos c25] at H
     have c25b0 : decide (a1 < 256) = true := decide_eq_true c25
     clear c25
     (first | rw [c25b0] | (simp only [i64_w, i32_w]; rw [c25b0]) | skip)
     have H' := Aside0.mk H
     clear H
     have hnb26 := NB497_498.out
     have hnc26 := NB498_497.out
     have hcz27_0 : w24.cell? ⟨gb497, 0, none⟩ = some (.string a0_0) := bz_ BK497 0
     have hcz27_1 : w24.cell? ⟨gb497, 1, none⟩ = some (.int .i64 a0_1) := bz_ BK497 1
     have hcz27_2 : w24.cell? ⟨gb497, 2, none⟩ = some (.int .i64 a0_2) := bz_ BK497 2
     have hcz27_3 : w24.cell? ⟨gb497, 3, none⟩ = some (.string a0_3) := bz_ BK497 3
     have hcz27_4 : w24.cell? ⟨gb497, 4, none⟩ = some (.int .i64 a0_4) := bz_ BK497 4
     have hcz27_5 : w24.cell? ⟨gb497, 5, none⟩ = some (.bool a0_5) := bz_ BK497 5
     have hcz27_6 : w24.cell? ⟨gb497, 6, none⟩ = some (.int .i64 a0_6) := bz_ BK497 6
     have hfz27_0 := blk_frozen BK497.out 0
     have hfz27_1 := blk_frozen BK497.out 1
     have hfz27_2 := blk_frozen BK497.out 2
     have hfz27_3 := blk_frozen BK497.out 3
     have hfz27_4 := blk_frozen BK497.out 4
     have hfz27_5 := blk_frozen BK497.out 5
     have hfz27_6 := blk_frozen BK497.out 6
     go_wp2
     go_meet
     case rel => exact ⟨_, ((a0_1 == 2)), q133_, H', ⟨q153_⟩, ⟨q122_⟩, ⟨q123_⟩, ⟨q70_⟩⟩
    ·rw [if_neg c25] at H
     have c25b0 : decide (a1 < 256) = false := decide_eq_false c25
     clear c25
     (first | rw [c25b0] | (simp only [i64_w, i32_w]; rw [c25b0]) | skip)
     have H' := Aside0.mk H
     clear H
     go_wp2
     go_meet
     case rel => exact ⟨_, (false), q133_, H', ⟨q153_⟩, ⟨q122_⟩, ⟨q123_⟩, ⟨q70_⟩⟩
   case rest =>
    clear HC19
    try clear c1
    try clear c2
    try clear p2
    try clear c4
    try clear c4b0
    try clear c4b1
    try clear c6
    try clear p6
    try clear c7
    try clear c11
    try clear c11b0
    try clear c14
    try clear c22
    try clear c25
    try clear c25b0
    try clear c26
    try clear hcz15_0 hcz15_1 hcz15_2 hcz15_3 hcz15_4 hcz15_5 hcz15_6
    try clear hcz17_0 hcz17_1 hcz17_2 hcz17_3 hcz17_4 hcz17_5 hcz17_6
    try clear hcz18_0 hcz18_1 hcz18_2 hcz18_3 hcz18_4 hcz18_5 hcz18_6
    try clear hcz23_0 hcz23_1 hcz23_2 hcz23_3 hcz23_4 hcz23_5 hcz23_6
    try clear hcz27_0 hcz27_1 hcz27_2 hcz27_3 hcz27_4 hcz27_5 hcz27_6
    try clear hcz8_0 hcz8_1 hcz8_2 hcz8_3 hcz8_4 hcz8_5 hcz8_6
    try clear hcz9_0 hcz9_1 hcz9_2 hcz9_3 hcz9_4 hcz9_5 hcz9_6
    try clear hfz15_0 hfz15_1 hfz15_2 hfz15_3 hfz15_4 hfz15_5 hfz15_6
    try clear hfz17_0 hfz17_1 hfz17_2 hfz17_3 hfz17_4 hfz17_5 hfz17_6
    try clear hfz18_0 hfz18_1 hfz18_2 hfz18_3 hfz18_4 hfz18_5 hfz18_6
    try clear hfz23_0 hfz23_1 hfz23_2 hfz23_3 hfz23_4 hfz23_5 hfz23_6
    try clear hfz27_0 hfz27_1 hfz27_2 hfz27_3 hfz27_4 hfz27_5 hfz27_6
    try clear hfz8_0 hfz8_1 hfz8_2 hfz8_3 hfz8_4 hfz8_5 hfz8_6
    try clear hfz9_0 hfz9_1 hfz9_2 hfz9_3 hfz9_4 hfz9_5 hfz9_6
    obtain ⟨kq, x22_18, rfl, HA, HJ18, BK497, BK498, HB⟩ := hcut
    cases kq with
    | zero => exact absurd HA.out (by simp [impl_Cart_written.j0])
    | succ kj18 =>
     have H := HA.out
     clear HA
     simp only [impl_Cart_written.j0] at H
     by_cases c28 : x22_18 = true
     ·subst c28
      replace H : (some (a0_0, a0_1, a2, a0_3, a0_4, a0_5, a0_6)) = some (r1, r2, r3, r4, r5, r6, r7) := by rw [if_pos rfl] at H; exact H
      simp only [Option.some.injEq, Prod.mk.injEq] at H
      obtain ⟨rfl, rfl, rfl, rfl, rfl, rfl, rfl⟩ := H
      have hnb29 := NB497_498.out
      have hnc29 := NB498_497.out
      have hcz30_0 : wc.cell? ⟨gb497, 0, none⟩ = some (.string a0_0) := bz_ BK497 0
      have hcz30_1 : wc.cell? ⟨gb497, 1, none⟩ = some (.int .i64 a0_1) := bz_ BK497 1
      have hcz30_2 : wc.cell? ⟨gb497, 2, none⟩ = some (.int .i64 a0_2) := bz_ BK497 2
      have hcz30_3 : wc.cell? ⟨gb497, 3, none⟩ = some (.string a0_3) := bz_ BK497 3
      have hcz30_4 : wc.cell? ⟨gb497, 4, none⟩ = some (.int .i64 a0_4) := bz_ BK497 4
      have hcz30_5 : wc.cell? ⟨gb497, 5, none⟩ = some (.bool a0_5) := bz_ BK497 5
      have hcz30_6 : wc.cell? ⟨gb497, 6, none⟩ = some (.int .i64 a0_6) := bz_ BK497 6
      have hfz30_0 := blk_frozen BK497.out 0
      have hfz30_1 := blk_frozen BK497.out 1
      have hfz30_2 := blk_frozen BK497.out 2
      have hfz30_3 := blk_frozen BK497.out 3
      have hfz30_4 := blk_frozen BK497.out 4
      have hfz30_5 := blk_frozen BK497.out 5
      have hfz30_6 := blk_frozen BK497.out 6
      have hcz31_0 : wc.cell? ⟨gb498, 0, none⟩ = some (.string (⟨#[]⟩ : ByteArray)) := bz_ BK498 0
      have hcz31_1 : wc.cell? ⟨gb498, 1, none⟩ = some (.int .i64 0) := bz_ BK498 1
      have hcz31_2 : wc.cell? ⟨gb498, 2, none⟩ = some (.int .i64 0) := bz_ BK498 2
      have hcz31_3 : wc.cell? ⟨gb498, 3, none⟩ = some (.string (⟨#[]⟩ : ByteArray)) := bz_ BK498 3
      have hcz31_4 : wc.cell? ⟨gb498, 4, none⟩ = some (.int .i64 0) := bz_ BK498 4
      have hcz31_5 : wc.cell? ⟨gb498, 5, none⟩ = some (.bool false) := bz_ BK498 5
      have hcz31_6 : wc.cell? ⟨gb498, 6, none⟩ = some (.int .i64 0) := bz_ BK498 6
      have hfz31_0 := blk_frozen BK498.out 0
      have hfz31_1 := blk_frozen BK498.out 1
      have hfz31_2 := blk_frozen BK498.out 2
      have hfz31_3 := blk_frozen BK498.out 3
      have hfz31_4 := blk_frozen BK498.out 4
      have hfz31_5 := blk_frozen BK498.out 5
      have hfz31_6 := blk_frozen BK498.out 6
      go_wp2
      refine bodyPost_ret (results_cell_row rfl _ _ gb498 32 #[.string a0_0, .int .i64 a0_1, .int .i64 a2, .string a0_3, .int .i64 a0_4, .bool a0_5, .int .i64 a0_6] (0, 0) _ rfl (by (with_reducible repeat (first | refine blk_drewN ?_ _ | refine blk_drew ?_ | refine blk_alloc ?_ _)); refine blk_put (cs := #[.string a0_0, .int .i64 a0_1, .int .i64 a2, .string a0_3, .int .i64 a0_4, .bool a0_5, .int .i64 0]) ?_ 6 _ rfl; (with_reducible repeat (first | refine blk_drewN ?_ _ | refine blk_drew ?_ | refine blk_alloc ?_ _)); refine blk_put (cs := #[.string a0_0, .int .i64 a0_1, .int .i64 a2, .string a0_3, .int .i64 a0_4, .bool false, .int .i64 0]) ?_ 5 _ rfl; (with_reducible repeat (first | refine blk_drewN ?_ _ | refine blk_drew ?_ | refine blk_alloc ?_ _)); refine blk_put (cs := #[.string a0_0, .int .i64 a0_1, .int .i64 a2, .string a0_3, .int .i64 0, .bool false, .int .i64 0]) ?_ 4 _ rfl; (with_reducible repeat (first | refine blk_drewN ?_ _ | refine blk_drew ?_ | refine blk_alloc ?_ _)); refine blk_put (cs := #[.string a0_0, .int .i64 a0_1, .int .i64 a2, .string (⟨#[]⟩ : ByteArray), .int .i64 0, .bool false, .int .i64 0]) ?_ 3 _ rfl; (with_reducible repeat (first | refine blk_drewN ?_ _ | refine blk_drew ?_ | refine blk_alloc ?_ _)); refine blk_put (cs := #[.string a0_0, .int .i64 a0_1, .int .i64 0, .string (⟨#[]⟩ : ByteArray), .int .i64 0, .bool false, .int .i64 0]) ?_ 2 _ rfl; (with_reducible repeat (first | refine blk_drewN ?_ _ | refine blk_drew ?_ | refine blk_alloc ?_ _)); refine blk_put (cs := #[.string a0_0, .int .i64 0, .int .i64 0, .string (⟨#[]⟩ : ByteArray), .int .i64 0, .bool false, .int .i64 0]) ?_ 1 _ rfl; (with_reducible repeat (first | refine blk_drewN ?_ _ | refine blk_drew ?_ | refine blk_alloc ?_ _)); refine blk_put (cs := #[.string (⟨#[]⟩ : ByteArray), .int .i64 0, .int .i64 0, .string (⟨#[]⟩ : ByteArray), .int .i64 0, .bool false, .int .i64 0]) ?_ 0 _ rfl; (with_reducible repeat (first | refine blk_drewN ?_ _ | refine blk_drew ?_ | refine blk_alloc ?_ _)); refine blk_far ?_ NB498_497.out _; (with_reducible repeat (first | refine blk_drewN ?_ _ | refine blk_drew ?_ | refine blk_alloc ?_ _)); exact BK498.out) Try.underlying32 rfl (by kernel_rfl)) rfl ?_
      exact ⟨q103_, q70_⟩
     ·replace c28 := Bool.eq_false_iff.mpr c28
      subst c28
      replace H : (if a1 < 256 then (some (a0_0, a0_1, mx 1 (Int.tmod a2 32), a0_3, a0_4, a0_5, a0_6)) else (if a1 < 384 then (some (a0_0, a0_1, a0_2, a0_3, Int.tmod a2 4, a0_5, a0_6)) else (if a1 < 512 then (impl_Cart_written.j1 kj18 a2 t499 (a0_1 == 1) a0_0 a0_1 a0_2 a0_3 a0_4 a0_5 a0_6) else (impl_Cart_written.j1 kj18 a2 t499 false a0_0 a0_1 a0_2 a0_3 a0_4 a0_5 a0_6)))) = some (r1, r2, r3, r4, r5, r6, r7) := by rw [if_neg (show ¬ (false = true) by decide)] at H; exact H
      by_cases c32 : a1 < 256
      ·rw [if_pos c32] at H
       have c32b0 : decide (a1 < 256) = true := decide_eq_true c32
       clear c32
       obtain ⟨ji33, hji33⟩ : ∃ j_ : Int, (mx 1 (Int.tmod a2 32)) = j_ := ⟨_, rfl⟩
       replace H : (some (a0_0, a0_1, ji33, a0_3, a0_4, a0_5, a0_6)) = some (r1, r2, r3, r4, r5, r6, r7) := by first | (rw [hji33] at H; exact H) | (simp only [hji33] at H ⊢; exact H)
       have hji33_ : (if 1 < (Int.tmod a2 32) then (Int.tmod a2 32) else 1) = ji33 := hji33
       simp only [Option.some.injEq, Prod.mk.injEq] at H
       obtain ⟨rfl, rfl, rfl, rfl, rfl, rfl, rfl⟩ := H
       have hnb34 := NB497_498.out
       have hnc34 := NB498_497.out
       have hcz35_0 : wc.cell? ⟨gb497, 0, none⟩ = some (.string a0_0) := bz_ BK497 0
       have hcz35_1 : wc.cell? ⟨gb497, 1, none⟩ = some (.int .i64 a0_1) := bz_ BK497 1
       have hcz35_2 : wc.cell? ⟨gb497, 2, none⟩ = some (.int .i64 a0_2) := bz_ BK497 2
       have hcz35_3 : wc.cell? ⟨gb497, 3, none⟩ = some (.string a0_3) := bz_ BK497 3
       have hcz35_4 : wc.cell? ⟨gb497, 4, none⟩ = some (.int .i64 a0_4) := bz_ BK497 4
       have hcz35_5 : wc.cell? ⟨gb497, 5, none⟩ = some (.bool a0_5) := bz_ BK497 5
       have hcz35_6 : wc.cell? ⟨gb497, 6, none⟩ = some (.int .i64 a0_6) := bz_ BK497 6
       have hfz35_0 := blk_frozen BK497.out 0
       have hfz35_1 := blk_frozen BK497.out 1
       have hfz35_2 := blk_frozen BK497.out 2
       have hfz35_3 := blk_frozen BK497.out 3
       have hfz35_4 := blk_frozen BK497.out 4
       have hfz35_5 := blk_frozen BK497.out 5
       have hfz35_6 := blk_frozen BK497.out 6
       have hcz36_0 : wc.cell? ⟨gb498, 0, none⟩ = some (.string (⟨#[]⟩ : ByteArray)) := bz_ BK498 0
       have hcz36_1 : wc.cell? ⟨gb498, 1, none⟩ = some (.int .i64 0) := bz_ BK498 1
       have hcz36_2 : wc.cell? ⟨gb498, 2, none⟩ = some (.int .i64 0) := bz_ BK498 2
       have hcz36_3 : wc.cell? ⟨gb498, 3, none⟩ = some (.string (⟨#[]⟩ : ByteArray)) := bz_ BK498 3
       have hcz36_4 : wc.cell? ⟨gb498, 4, none⟩ = some (.int .i64 0) := bz_ BK498 4
       have hcz36_5 : wc.cell? ⟨gb498, 5, none⟩ = some (.bool false) := bz_ BK498 5
       have hcz36_6 : wc.cell? ⟨gb498, 6, none⟩ = some (.int .i64 0) := bz_ BK498 6
       have hfz36_0 := blk_frozen BK498.out 0
       have hfz36_1 := blk_frozen BK498.out 1
       have hfz36_2 := blk_frozen BK498.out 2
       have hfz36_3 := blk_frozen BK498.out 3
       have hfz36_4 := blk_frozen BK498.out 4
       have hfz36_5 := blk_frozen BK498.out 5
       have hfz36_6 := blk_frozen BK498.out 6
       go_wp2
       refine bodyPost_ret (results_cell_row rfl _ _ gb498 32 #[.string a0_0, .int .i64 a0_1, .int .i64 ji33, .string a0_3, .int .i64 a0_4, .bool a0_5, .int .i64 a0_6] (0, 0) _ rfl (by (with_reducible repeat (first | refine blk_drewN ?_ _ | refine blk_drew ?_ | refine blk_alloc ?_ _)); refine blk_put (cs := #[.string a0_0, .int .i64 a0_1, .int .i64 ji33, .string a0_3, .int .i64 a0_4, .bool a0_5, .int .i64 0]) ?_ 6 _ rfl; (with_reducible repeat (first | refine blk_drewN ?_ _ | refine blk_drew ?_ | refine blk_alloc ?_ _)); refine blk_put (cs := #[.string a0_0, .int .i64 a0_1, .int .i64 ji33, .string a0_3, .int .i64 a0_4, .bool false, .int .i64 0]) ?_ 5 _ rfl; (with_reducible repeat (first | refine blk_drewN ?_ _ | refine blk_drew ?_ | refine blk_alloc ?_ _)); refine blk_put (cs := #[.string a0_0, .int .i64 a0_1, .int .i64 ji33, .string a0_3, .int .i64 0, .bool false, .int .i64 0]) ?_ 4 _ rfl; (with_reducible repeat (first | refine blk_drewN ?_ _ | refine blk_drew ?_ | refine blk_alloc ?_ _)); refine blk_put (cs := #[.string a0_0, .int .i64 a0_1, .int .i64 ji33, .string (⟨#[]⟩ : ByteArray), .int .i64 0, .bool false, .int .i64 0]) ?_ 3 _ rfl; (with_reducible repeat (first | refine blk_drewN ?_ _ | refine blk_drew ?_ | refine blk_alloc ?_ _)); refine blk_put (cs := #[.string a0_0, .int .i64 a0_1, .int .i64 0, .string (⟨#[]⟩ : ByteArray), .int .i64 0, .bool false, .int .i64 0]) ?_ 2 _ rfl; (with_reducible repeat (first | refine blk_drewN ?_ _ | refine blk_drew ?_ | refine blk_alloc ?_ _)); refine blk_put (cs := #[.string a0_0, .int .i64 0, .int .i64 0, .string (⟨#[]⟩ : ByteArray), .int .i64 0, .bool false, .int .i64 0]) ?_ 1 _ rfl; (with_reducible repeat (first | refine blk_drewN ?_ _ | refine blk_drew ?_ | refine blk_alloc ?_ _)); refine blk_put (cs := #[.string (⟨#[]⟩ : ByteArray), .int .i64 0, .int .i64 0, .string (⟨#[]⟩ : ByteArray), .int .i64 0, .bool false, .int .i64 0]) ?_ 0 _ rfl; (with_reducible repeat (first | refine blk_drewN ?_ _ | refine blk_drew ?_ | refine blk_alloc ?_ _)); refine blk_far ?_ NB498_497.out _; (with_reducible repeat (first | refine blk_drewN ?_ _ | refine blk_drew ?_ | refine blk_alloc ?_ _)); exact BK498.out) Try.underlying32 rfl (by kernel_rfl)) rfl ?_
       exact ⟨by first | rfl | (simp [errW_none, errW_some] <;> rfl) | (simp only [← hji33]; first | rfl | (simp [errW_none, errW_some] <;> rfl)) | (simp [*, errW_none, errW_some] <;> rfl) | (exfalso; simp_all; done), q70_⟩
      ·rw [if_neg c32] at H
       have c32b0 : decide (a1 < 256) = false := decide_eq_false c32
       clear c32
       by_cases c37 : a1 < 384
       ·rw [if_pos c37] at H
        have c37b0 : decide (a1 < 384) = true := decide_eq_true c37
        clear c37
        simp only [Option.some.injEq, Prod.mk.injEq] at H
        obtain ⟨rfl, rfl, rfl, rfl, rfl, rfl, rfl⟩ := H
        have hnb38 := NB497_498.out
        have hnc38 := NB498_497.out
        have hcz39_0 : wc.cell? ⟨gb497, 0, none⟩ = some (.string a0_0) := bz_ BK497 0
        have hcz39_1 : wc.cell? ⟨gb497, 1, none⟩ = some (.int .i64 a0_1) := bz_ BK497 1
        have hcz39_2 : wc.cell? ⟨gb497, 2, none⟩ = some (.int .i64 a0_2) := bz_ BK497 2
        have hcz39_3 : wc.cell? ⟨gb497, 3, none⟩ = some (.string a0_3) := bz_ BK497 3
        have hcz39_4 : wc.cell? ⟨gb497, 4, none⟩ = some (.int .i64 a0_4) := bz_ BK497 4
        have hcz39_5 : wc.cell? ⟨gb497, 5, none⟩ = some (.bool a0_5) := bz_ BK497 5
        have hcz39_6 : wc.cell? ⟨gb497, 6, none⟩ = some (.int .i64 a0_6) := bz_ BK497 6
        have hfz39_0 := blk_frozen BK497.out 0
        have hfz39_1 := blk_frozen BK497.out 1
        have hfz39_2 := blk_frozen BK497.out 2
        have hfz39_3 := blk_frozen BK497.out 3
        have hfz39_4 := blk_frozen BK497.out 4
        have hfz39_5 := blk_frozen BK497.out 5
        have hfz39_6 := blk_frozen BK497.out 6
        have hcz40_0 : wc.cell? ⟨gb498, 0, none⟩ = some (.string (⟨#[]⟩ : ByteArray)) := bz_ BK498 0
        have hcz40_1 : wc.cell? ⟨gb498, 1, none⟩ = some (.int .i64 0) := bz_ BK498 1
        have hcz40_2 : wc.cell? ⟨gb498, 2, none⟩ = some (.int .i64 0) := bz_ BK498 2
        have hcz40_3 : wc.cell? ⟨gb498, 3, none⟩ = some (.string (⟨#[]⟩ : ByteArray)) := bz_ BK498 3
        have hcz40_4 : wc.cell? ⟨gb498, 4, none⟩ = some (.int .i64 0) := bz_ BK498 4
        have hcz40_5 : wc.cell? ⟨gb498, 5, none⟩ = some (.bool false) := bz_ BK498 5
        have hcz40_6 : wc.cell? ⟨gb498, 6, none⟩ = some (.int .i64 0) := bz_ BK498 6
        have hfz40_0 := blk_frozen BK498.out 0
        have hfz40_1 := blk_frozen BK498.out 1
        have hfz40_2 := blk_frozen BK498.out 2
        have hfz40_3 := blk_frozen BK498.out 3
        have hfz40_4 := blk_frozen BK498.out 4
        have hfz40_5 := blk_frozen BK498.out 5
        have hfz40_6 := blk_frozen BK498.out 6
        go_wp2
        refine bodyPost_ret (results_cell_row rfl _ _ gb498 32 #[.string a0_0, .int .i64 a0_1, .int .i64 a0_2, .string a0_3, .int .i64 (Int.tmod a2 4), .bool a0_5, .int .i64 a0_6] (0, 0) _ rfl (by (with_reducible repeat (first | refine blk_drewN ?_ _ | refine blk_drew ?_ | refine blk_alloc ?_ _)); refine blk_put (cs := #[.string a0_0, .int .i64 a0_1, .int .i64 a0_2, .string a0_3, .int .i64 (Int.tmod a2 4), .bool a0_5, .int .i64 0]) ?_ 6 _ rfl; (with_reducible repeat (first | refine blk_drewN ?_ _ | refine blk_drew ?_ | refine blk_alloc ?_ _)); refine blk_put (cs := #[.string a0_0, .int .i64 a0_1, .int .i64 a0_2, .string a0_3, .int .i64 (Int.tmod a2 4), .bool false, .int .i64 0]) ?_ 5 _ rfl; (with_reducible repeat (first | refine blk_drewN ?_ _ | refine blk_drew ?_ | refine blk_alloc ?_ _)); refine blk_put (cs := #[.string a0_0, .int .i64 a0_1, .int .i64 a0_2, .string a0_3, .int .i64 0, .bool false, .int .i64 0]) ?_ 4 _ rfl; (with_reducible repeat (first | refine blk_drewN ?_ _ | refine blk_drew ?_ | refine blk_alloc ?_ _)); refine blk_put (cs := #[.string a0_0, .int .i64 a0_1, .int .i64 a0_2, .string (⟨#[]⟩ : ByteArray), .int .i64 0, .bool false, .int .i64 0]) ?_ 3 _ rfl; (with_reducible repeat (first | refine blk_drewN ?_ _ | refine blk_drew ?_ | refine blk_alloc ?_ _)); refine blk_put (cs := #[.string a0_0, .int .i64 a0_1, .int .i64 0, .string (⟨#[]⟩ : ByteArray), .int .i64 0, .bool false, .int .i64 0]) ?_ 2 _ rfl; (with_reducible repeat (first | refine blk_drewN ?_ _ | refine blk_drew ?_ | refine blk_alloc ?_ _)); refine blk_put (cs := #[.string a0_0, .int .i64 0, .int .i64 0, .string (⟨#[]⟩ : ByteArray), .int .i64 0, .bool false, .int .i64 0]) ?_ 1 _ rfl; (with_reducible repeat (first | refine blk_drewN ?_ _ | refine blk_drew ?_ | refine blk_alloc ?_ _)); refine blk_put (cs := #[.string (⟨#[]⟩ : ByteArray), .int .i64 0, .int .i64 0, .string (⟨#[]⟩ : ByteArray), .int .i64 0, .bool false, .int .i64 0]) ?_ 0 _ rfl; (with_reducible repeat (first | refine blk_drewN ?_ _ | refine blk_drew ?_ | refine blk_alloc ?_ _)); refine blk_far ?_ NB498_497.out _; (with_reducible repeat (first | refine blk_drewN ?_ _ | refine blk_drew ?_ | refine blk_alloc ?_ _)); exact BK498.out) Try.underlying32 rfl (by kernel_rfl)) rfl ?_
        exact ⟨q103_, q70_⟩
       ·rw [if_neg c37] at H
        have c37b0 : decide (a1 < 384) = false := decide_eq_false c37
        clear c37
        have HC41 := Aside0.mk H
        clear H
        go_upto_region 12 with (fail)
        go_cut [45] (fun v45 wc => ∃ (kq : Nat) (x45_40 : Bool), v45 = .bool x45_40 ∧ Aside0 (impl_Cart_written.j1 kq a2 t499 x45_40 a0_0 a0_1 a0_2 a0_3 a0_4 a0_5 a0_6 = some (r1, r2, r3, r4, r5, r6, r7)) ∧ Aside0 (kq ≤ kj18) ∧ Aside0 (wc.heap[gb497]? = some (.cells #[.string a0_0, .int .i64 a0_1, .int .i64 a0_2, .string a0_3, .int .i64 a0_4, .bool a0_5, .int .i64 a0_6] 32 (0, 0))) ∧ Aside0 (wc.heap[gb498]? = some (.cells #[.string (⟨#[]⟩ : ByteArray), .int .i64 0, .int .i64 0, .string (⟨#[]⟩ : ByteArray), .int .i64 0, .bool false, .int .i64 0] 32 (0, 0))) ∧ Aside0 (Below w.heap.size w wc))
        case first =>
         have H := HC41.out
         clear HC41
         by_cases c42 : a1 < 512
         ·rw [if_pos c42] at H
          have c42b0 : decide (a1 < 512) = true := decide_eq_true c42
          clear c42
          (first | rw [c42b0] | (simp only [i64_w, i32_w]; rw [c42b0]) | skip)
          have H' := Aside0.mk H
          clear H
          have hnb43 := NB497_498.out
          have hnc43 := NB498_497.out
          have hcz44_0 : wc.cell? ⟨gb497, 0, none⟩ = some (.string a0_0) := bz_ BK497 0
          have hcz44_1 : wc.cell? ⟨gb497, 1, none⟩ = some (.int .i64 a0_1) := bz_ BK497 1
          have hcz44_2 : wc.cell? ⟨gb497, 2, none⟩ = some (.int .i64 a0_2) := bz_ BK497 2
          have hcz44_3 : wc.cell? ⟨gb497, 3, none⟩ = some (.string a0_3) := bz_ BK497 3
          have hcz44_4 : wc.cell? ⟨gb497, 4, none⟩ = some (.int .i64 a0_4) := bz_ BK497 4
          have hcz44_5 : wc.cell? ⟨gb497, 5, none⟩ = some (.bool a0_5) := bz_ BK497 5
          have hcz44_6 : wc.cell? ⟨gb497, 6, none⟩ = some (.int .i64 a0_6) := bz_ BK497 6
          have hfz44_0 := blk_frozen BK497.out 0
          have hfz44_1 := blk_frozen BK497.out 1
          have hfz44_2 := blk_frozen BK497.out 2
          have hfz44_3 := blk_frozen BK497.out 3
          have hfz44_4 := blk_frozen BK497.out 4
          have hfz44_5 := blk_frozen BK497.out 5
          have hfz44_6 := blk_frozen BK497.out 6
          go_wp2
          go_meet
          case rel => exact ⟨_, ((a0_1 == 1)), q133_, H', ⟨by have := HJ18.out; first | omega | exact Nat.le_refl _⟩, ⟨q122_⟩, ⟨q123_⟩, ⟨q70_⟩⟩
         ·rw [if_neg c42] at H
          have c42b0 : decide (a1 < 512) = false := decide_eq_false c42
          clear c42
          (first | rw [c42b0] | (simp only [i64_w, i32_w]; rw [c42b0]) | skip)
          have H' := Aside0.mk H
          clear H
          go_wp2
          go_meet
          case rel => exact ⟨_, (false), q133_, H', ⟨by have := HJ18.out; first | omega | exact Nat.le_refl _⟩, ⟨q122_⟩, ⟨q123_⟩, ⟨q70_⟩⟩
        case rest =>
         clear HC41
         try clear c1
         try clear c2
         try clear p2 p2
         try clear c3
         try clear c4
         try clear c4b0
         try clear c4b1
         try clear c6
         try clear p6 p6
         try clear c7
         try clear c11
         try clear c11b0
         try clear c14
         try clear c22
         try clear c25
         try clear c25b0
         try clear c26
         try clear c28
         try clear c29
         try clear c32
         try clear c32b0
         try clear c34
         try clear c37
         try clear c37b0
         try clear c38
         try clear c42
         try clear c42b0
         try clear c43
         try clear hcz15_0 hcz15_1 hcz15_2 hcz15_3 hcz15_4 hcz15_5 hcz15_6
         try clear hcz17_0 hcz17_1 hcz17_2 hcz17_3 hcz17_4 hcz17_5 hcz17_6
         try clear hcz18_0 hcz18_1 hcz18_2 hcz18_3 hcz18_4 hcz18_5 hcz18_6
         try clear hcz23_0 hcz23_1 hcz23_2 hcz23_3 hcz23_4 hcz23_5 hcz23_6
         try clear hcz27_0 hcz27_1 hcz27_2 hcz27_3 hcz27_4 hcz27_5 hcz27_6
         try clear hcz30_0 hcz30_1 hcz30_2 hcz30_3 hcz30_4 hcz30_5 hcz30_6
         try clear hcz31_0 hcz31_1 hcz31_2 hcz31_3 hcz31_4 hcz31_5 hcz31_6
         try clear hcz35_0 hcz35_1 hcz35_2 hcz35_3 hcz35_4 hcz35_5 hcz35_6
         try clear hcz36_0 hcz36_1 hcz36_2 hcz36_3 hcz36_4 hcz36_5 hcz36_6
         try clear hcz39_0 hcz39_1 hcz39_2 hcz39_3 hcz39_4 hcz39_5 hcz39_6
         try clear hcz40_0 hcz40_1 hcz40_2 hcz40_3 hcz40_4 hcz40_5 hcz40_6
         try clear hcz44_0 hcz44_1 hcz44_2 hcz44_3 hcz44_4 hcz44_5 hcz44_6
         try clear hcz8_0 hcz8_1 hcz8_2 hcz8_3 hcz8_4 hcz8_5 hcz8_6
         try clear hcz9_0 hcz9_1 hcz9_2 hcz9_3 hcz9_4 hcz9_5 hcz9_6
         try clear hfz15_0 hfz15_1 hfz15_2 hfz15_3 hfz15_4 hfz15_5 hfz15_6
         try clear hfz17_0 hfz17_1 hfz17_2 hfz17_3 hfz17_4 hfz17_5 hfz17_6
         try clear hfz18_0 hfz18_1 hfz18_2 hfz18_3 hfz18_4 hfz18_5 hfz18_6
         try clear hfz23_0 hfz23_1 hfz23_2 hfz23_3 hfz23_4 hfz23_5 hfz23_6
         try clear hfz27_0 hfz27_1 hfz27_2 hfz27_3 hfz27_4 hfz27_5 hfz27_6
         try clear hfz30_0 hfz30_1 hfz30_2 hfz30_3 hfz30_4 hfz30_5 hfz30_6
         try clear hfz31_0 hfz31_1 hfz31_2 hfz31_3 hfz31_4 hfz31_5 hfz31_6
         try clear hfz35_0 hfz35_1 hfz35_2 hfz35_3 hfz35_4 hfz35_5 hfz35_6
         try clear hfz36_0 hfz36_1 hfz36_2 hfz36_3 hfz36_4 hfz36_5 hfz36_6
         try clear hfz39_0 hfz39_1 hfz39_2 hfz39_3 hfz39_4 hfz39_5 hfz39_6
         try clear hfz40_0 hfz40_1 hfz40_2 hfz40_3 hfz40_4 hfz40_5 hfz40_6
         try clear hfz44_0 hfz44_1 hfz44_2 hfz44_3 hfz44_4 hfz44_5 hfz44_6
         try clear hfz8_0 hfz8_1 hfz8_2 hfz8_3 hfz8_4 hfz8_5 hfz8_6
         try clear hfz9_0 hfz9_1 hfz9_2 hfz9_3 hfz9_4 hfz9_5 hfz9_6
         obtain ⟨kq, x45_40, rfl, HA, HJ40, BK497, BK498, HB⟩ := hcut
         cases kq with
         | zero => exact absurd HA.out (by simp [impl_Cart_written.j1])
         | succ kj40 =>
          have H := HA.out
          clear HA
          simp only [impl_Cart_written.j1] at H
          by_cases c45 : x45_40 = true
          ·subst c45
           replace H : (some (a0_0, a0_1, a0_2, a0_3, a0_4, a0_5, Int.tmod a2 2)) = some (r1, r2, r3, r4, r5, r6, r7) := by rw [if_pos rfl] at H; exact H
           simp only [Option.some.injEq, Prod.mk.injEq] at H
           obtain ⟨rfl, rfl, rfl, rfl, rfl, rfl, rfl⟩ := H
           have hnb46 := NB497_498.out
           have hnc46 := NB498_497.out
           have hcz47_0 : wc.cell? ⟨gb497, 0, none⟩ = some (.string a0_0) := bz_ BK497 0
           have hcz47_1 : wc.cell? ⟨gb497, 1, none⟩ = some (.int .i64 a0_1) := bz_ BK497 1
           have hcz47_2 : wc.cell? ⟨gb497, 2, none⟩ = some (.int .i64 a0_2) := bz_ BK497 2
           have hcz47_3 : wc.cell? ⟨gb497, 3, none⟩ = some (.string a0_3) := bz_ BK497 3
           have hcz47_4 : wc.cell? ⟨gb497, 4, none⟩ = some (.int .i64 a0_4) := bz_ BK497 4
           have hcz47_5 : wc.cell? ⟨gb497, 5, none⟩ = some (.bool a0_5) := bz_ BK497 5
           have hcz47_6 : wc.cell? ⟨gb497, 6, none⟩ = some (.int .i64 a0_6) := bz_ BK497 6
           have hfz47_0 := blk_frozen BK497.out 0
           have hfz47_1 := blk_frozen BK497.out 1
           have hfz47_2 := blk_frozen BK497.out 2
           have hfz47_3 := blk_frozen BK497.out 3
           have hfz47_4 := blk_frozen BK497.out 4
           have hfz47_5 := blk_frozen BK497.out 5
           have hfz47_6 := blk_frozen BK497.out 6
           have hcz48_0 : wc.cell? ⟨gb498, 0, none⟩ = some (.string (⟨#[]⟩ : ByteArray)) := bz_ BK498 0
           have hcz48_1 : wc.cell? ⟨gb498, 1, none⟩ = some (.int .i64 0) := bz_ BK498 1
           have hcz48_2 : wc.cell? ⟨gb498, 2, none⟩ = some (.int .i64 0) := bz_ BK498 2
           have hcz48_3 : wc.cell? ⟨gb498, 3, none⟩ = some (.string (⟨#[]⟩ : ByteArray)) := bz_ BK498 3
           have hcz48_4 : wc.cell? ⟨gb498, 4, none⟩ = some (.int .i64 0) := bz_ BK498 4
           have hcz48_5 : wc.cell? ⟨gb498, 5, none⟩ = some (.bool false) := bz_ BK498 5
           have hcz48_6 : wc.cell? ⟨gb498, 6, none⟩ = some (.int .i64 0) := bz_ BK498 6
           have hfz48_0 := blk_frozen BK498.out 0
           have hfz48_1 := blk_frozen BK498.out 1
           have hfz48_2 := blk_frozen BK498.out 2
           have hfz48_3 := blk_frozen BK498.out 3
           have hfz48_4 := blk_frozen BK498.out 4
           have hfz48_5 := blk_frozen BK498.out 5
           have hfz48_6 := blk_frozen BK498.out 6
           go_wp2
           refine bodyPost_ret (results_cell_row rfl _ _ gb498 32 #[.string a0_0, .int .i64 a0_1, .int .i64 a0_2, .string a0_3, .int .i64 a0_4, .bool a0_5, .int .i64 (Int.tmod a2 2)] (0, 0) _ rfl (by (with_reducible repeat (first | refine blk_drewN ?_ _ | refine blk_drew ?_ | refine blk_alloc ?_ _)); refine blk_put (cs := #[.string a0_0, .int .i64 a0_1, .int .i64 a0_2, .string a0_3, .int .i64 a0_4, .bool a0_5, .int .i64 0]) ?_ 6 _ rfl; (with_reducible repeat (first | refine blk_drewN ?_ _ | refine blk_drew ?_ | refine blk_alloc ?_ _)); refine blk_put (cs := #[.string a0_0, .int .i64 a0_1, .int .i64 a0_2, .string a0_3, .int .i64 a0_4, .bool false, .int .i64 0]) ?_ 5 _ rfl; (with_reducible repeat (first | refine blk_drewN ?_ _ | refine blk_drew ?_ | refine blk_alloc ?_ _)); refine blk_put (cs := #[.string a0_0, .int .i64 a0_1, .int .i64 a0_2, .string a0_3, .int .i64 0, .bool false, .int .i64 0]) ?_ 4 _ rfl; (with_reducible repeat (first | refine blk_drewN ?_ _ | refine blk_drew ?_ | refine blk_alloc ?_ _)); refine blk_put (cs := #[.string a0_0, .int .i64 a0_1, .int .i64 a0_2, .string (⟨#[]⟩ : ByteArray), .int .i64 0, .bool false, .int .i64 0]) ?_ 3 _ rfl; (with_reducible repeat (first | refine blk_drewN ?_ _ | refine blk_drew ?_ | refine blk_alloc ?_ _)); refine blk_put (cs := #[.string a0_0, .int .i64 a0_1, .int .i64 0, .string (⟨#[]⟩ : ByteArray), .int .i64 0, .bool false, .int .i64 0]) ?_ 2 _ rfl; (with_reducible repeat (first | refine blk_drewN ?_ _ | refine blk_drew ?_ | refine blk_alloc ?_ _)); refine blk_put (cs := #[.string a0_0, .int .i64 0, .int .i64 0, .string (⟨#[]⟩ : ByteArray), .int .i64 0, .bool false, .int .i64 0]) ?_ 1 _ rfl; (with_reducible repeat (first | refine blk_drewN ?_ _ | refine blk_drew ?_ | refine blk_alloc ?_ _)); refine blk_put (cs := #[.string (⟨#[]⟩ : ByteArray), .int .i64 0, .int .i64 0, .string (⟨#[]⟩ : ByteArray), .int .i64 0, .bool false, .int .i64 0]) ?_ 0 _ rfl; (with_reducible repeat (first | refine blk_drewN ?_ _ | refine blk_drew ?_ | refine blk_alloc ?_ _)); refine blk_far ?_ NB498_497.out _; (with_reducible repeat (first | refine blk_drewN ?_ _ | refine blk_drew ?_ | refine blk_alloc ?_ _)); exact BK498.out) Try.underlying32 rfl (by kernel_rfl)) rfl ?_
           exact ⟨q103_, q70_⟩
          ·replace c45 := Bool.eq_false_iff.mpr c45
           subst c45
           replace H : (if t499 ≥ 0 then ((impl_replaced.f a0_3 t499 a2).bind fun t500 => (some (a0_0, a0_1, a0_2, t500, a0_4, a0_5, a0_6))) else (some (a0_0, a0_1, a0_2, a0_3, a0_4, a0_5, a0_6))) = some (r1, r2, r3, r4, r5, r6, r7) := by rw [if_neg (show ¬ (false = true) by decide)] at H; exact H
           by_cases c49 : t499 ≥ 0
           ·rw [if_pos c49] at H
            have c49b0 : decide (0 ≤ t499) = true := decide_eq_true c49
            clear c49
            replace H := Option.bind_eq_some_iff.mp H
            obtain ⟨t500, A500, H⟩ := H
            have A50 := Aside0.mk A500
            clear A500
            simp only [Option.some.injEq, Prod.mk.injEq] at H
            obtain ⟨rfl, rfl, rfl, rfl, rfl, rfl, rfl⟩ := H
            have hnb51 := NB497_498.out
            have hnc51 := NB498_497.out
            have hcz52_0 : wc.cell? ⟨gb497, 0, none⟩ = some (.string a0_0) := bz_ BK497 0
            have hcz52_1 : wc.cell? ⟨gb497, 1, none⟩ = some (.int .i64 a0_1) := bz_ BK497 1
            have hcz52_2 : wc.cell? ⟨gb497, 2, none⟩ = some (.int .i64 a0_2) := bz_ BK497 2
            have hcz52_3 : wc.cell? ⟨gb497, 3, none⟩ = some (.string a0_3) := bz_ BK497 3
            have hcz52_4 : wc.cell? ⟨gb497, 4, none⟩ = some (.int .i64 a0_4) := bz_ BK497 4
            have hcz52_5 : wc.cell? ⟨gb497, 5, none⟩ = some (.bool a0_5) := bz_ BK497 5
            have hcz52_6 : wc.cell? ⟨gb497, 6, none⟩ = some (.int .i64 a0_6) := bz_ BK497 6
            have hfz52_0 := blk_frozen BK497.out 0
            have hfz52_1 := blk_frozen BK497.out 1
            have hfz52_2 := blk_frozen BK497.out 2
            have hfz52_3 := blk_frozen BK497.out 3
            have hfz52_4 := blk_frozen BK497.out 4
            have hfz52_5 := blk_frozen BK497.out 5
            have hfz52_6 := blk_frozen BK497.out 6
            go_wp2_with (first | ((with_reducible refine gate_callee (f := 76) rfl ?_); refine goesL_ (some 63) rfl rfl Try.func76 (by kernel_rfl) rfl #[.string a0_3, .int .i64 t499, .int .i64 a2] rfl q101_ ?_; (with_reducible refine (impl_replaced.calls a0_3 t499 a2 t500 _ A50.out).mono ?_); rintro e w53 ⟨rfl, hb⟩; refine ⟨_, rfl, ?_⟩; have n0_ := Aside0.mk (blk_below (g := gb497) (o := .cells #[.string a0_0, .int .i64 a0_1, .int .i64 a0_2, .string a0_3, .int .i64 a0_4, .bool a0_5, .int .i64 a0_6] 32 (0, 0)) q122_ hb); have n1_ := Aside0.mk (blk_below (g := gb498) (o := .cells #[.string (⟨#[]⟩ : ByteArray), .int .i64 0, .int .i64 0, .string (⟨#[]⟩ : ByteArray), .int .i64 0, .bool false, .int .i64 0] 32 (0, 0)) q123_ hb); have n2_ := Aside0.mk (below_step q70_ hb); clear BK497; clear BK498; clear HB; have BK497 := n0_; have BK498 := n1_; have HB := n2_; clear n0_ n1_ n2_; (try clear hb); have hcz54_0 : w53.cell? ⟨gb497, 0, none⟩ = some (.string a0_0) := (blk_cell BK497.out 0).trans rfl; have hcz54_1 : w53.cell? ⟨gb497, 1, none⟩ = some (.int .i64 a0_1) := (blk_cell BK497.out 1).trans rfl; have hcz54_2 : w53.cell? ⟨gb497, 2, none⟩ = some (.int .i64 a0_2) := (blk_cell BK497.out 2).trans rfl; have hcz54_3 : w53.cell? ⟨gb497, 3, none⟩ = some (.string a0_3) := (blk_cell BK497.out 3).trans rfl; have hcz54_4 : w53.cell? ⟨gb497, 4, none⟩ = some (.int .i64 a0_4) := (blk_cell BK497.out 4).trans rfl; have hcz54_5 : w53.cell? ⟨gb497, 5, none⟩ = some (.bool a0_5) := (blk_cell BK497.out 5).trans rfl; have hcz54_6 : w53.cell? ⟨gb497, 6, none⟩ = some (.int .i64 a0_6) := (blk_cell BK497.out 6).trans rfl; have hfz54_0 := blk_frozen BK497.out 0; have hfz54_1 := blk_frozen BK497.out 1; have hfz54_2 := blk_frozen BK497.out 2; have hfz54_3 := blk_frozen BK497.out 3; have hfz54_4 := blk_frozen BK497.out 4; have hfz54_5 := blk_frozen BK497.out 5; have hfz54_6 := blk_frozen BK497.out 6; have hcz55_0 : w53.cell? ⟨gb498, 0, none⟩ = some (.string (⟨#[]⟩ : ByteArray)) := (blk_cell BK498.out 0).trans rfl; have hcz55_1 : w53.cell? ⟨gb498, 1, none⟩ = some (.int .i64 0) := (blk_cell BK498.out 1).trans rfl; have hcz55_2 : w53.cell? ⟨gb498, 2, none⟩ = some (.int .i64 0) := (blk_cell BK498.out 2).trans rfl; have hcz55_3 : w53.cell? ⟨gb498, 3, none⟩ = some (.string (⟨#[]⟩ : ByteArray)) := (blk_cell BK498.out 3).trans rfl; have hcz55_4 : w53.cell? ⟨gb498, 4, none⟩ = some (.int .i64 0) := (blk_cell BK498.out 4).trans rfl; have hcz55_5 : w53.cell? ⟨gb498, 5, none⟩ = some (.bool false) := (blk_cell BK498.out 5).trans rfl; have hcz55_6 : w53.cell? ⟨gb498, 6, none⟩ = some (.int .i64 0) := (blk_cell BK498.out 6).trans rfl; have hfz55_0 := blk_frozen BK498.out 0; have hfz55_1 := blk_frozen BK498.out 1; have hfz55_2 := blk_frozen BK498.out 2; have hfz55_3 := blk_frozen BK498.out 3; have hfz55_4 := blk_frozen BK498.out 4; have hfz55_5 := blk_frozen BK498.out 5; have hfz55_6 := blk_frozen BK498.out 6))
            refine bodyPost_ret (results_cell_row rfl _ _ gb498 32 #[.string a0_0, .int .i64 a0_1, .int .i64 a0_2, .string t500, .int .i64 a0_4, .bool a0_5, .int .i64 a0_6] (0, 0) _ rfl (by (with_reducible repeat (first | refine blk_drewN ?_ _ | refine blk_drew ?_ | refine blk_alloc ?_ _)); refine blk_put (cs := #[.string a0_0, .int .i64 a0_1, .int .i64 a0_2, .string t500, .int .i64 a0_4, .bool a0_5, .int .i64 0]) ?_ 6 _ rfl; (with_reducible repeat (first | refine blk_drewN ?_ _ | refine blk_drew ?_ | refine blk_alloc ?_ _)); refine blk_put (cs := #[.string a0_0, .int .i64 a0_1, .int .i64 a0_2, .string t500, .int .i64 a0_4, .bool false, .int .i64 0]) ?_ 5 _ rfl; (with_reducible repeat (first | refine blk_drewN ?_ _ | refine blk_drew ?_ | refine blk_alloc ?_ _)); refine blk_put (cs := #[.string a0_0, .int .i64 a0_1, .int .i64 a0_2, .string t500, .int .i64 0, .bool false, .int .i64 0]) ?_ 4 _ rfl; (with_reducible repeat (first | refine blk_drewN ?_ _ | refine blk_drew ?_ | refine blk_alloc ?_ _)); refine blk_put (cs := #[.string a0_0, .int .i64 a0_1, .int .i64 a0_2, .string (⟨#[]⟩ : ByteArray), .int .i64 0, .bool false, .int .i64 0]) ?_ 3 _ rfl; (with_reducible repeat (first | refine blk_drewN ?_ _ | refine blk_drew ?_ | refine blk_alloc ?_ _)); refine blk_put (cs := #[.string a0_0, .int .i64 a0_1, .int .i64 0, .string (⟨#[]⟩ : ByteArray), .int .i64 0, .bool false, .int .i64 0]) ?_ 2 _ rfl; (with_reducible repeat (first | refine blk_drewN ?_ _ | refine blk_drew ?_ | refine blk_alloc ?_ _)); refine blk_put (cs := #[.string a0_0, .int .i64 0, .int .i64 0, .string (⟨#[]⟩ : ByteArray), .int .i64 0, .bool false, .int .i64 0]) ?_ 1 _ rfl; (with_reducible repeat (first | refine blk_drewN ?_ _ | refine blk_drew ?_ | refine blk_alloc ?_ _)); refine blk_put (cs := #[.string (⟨#[]⟩ : ByteArray), .int .i64 0, .int .i64 0, .string (⟨#[]⟩ : ByteArray), .int .i64 0, .bool false, .int .i64 0]) ?_ 0 _ rfl; (with_reducible repeat (first | refine blk_drewN ?_ _ | refine blk_drew ?_ | refine blk_alloc ?_ _)); refine blk_far ?_ NB498_497.out _; (with_reducible repeat (first | refine blk_drewN ?_ _ | refine blk_drew ?_ | refine blk_alloc ?_ _)); exact BK498.out) Try.underlying32 rfl (by kernel_rfl)) rfl ?_
            exact ⟨q103_, q70_⟩
           ·rw [if_neg c49] at H
            have c49b0 : decide (0 ≤ t499) = false := decide_eq_false c49
            clear c49
            simp only [Option.some.injEq, Prod.mk.injEq] at H
            obtain ⟨rfl, rfl, rfl, rfl, rfl, rfl, rfl⟩ := H
            have hnb56 := NB497_498.out
            have hnc56 := NB498_497.out
            have hcz57_0 : wc.cell? ⟨gb497, 0, none⟩ = some (.string a0_0) := bz_ BK497 0
            have hcz57_1 : wc.cell? ⟨gb497, 1, none⟩ = some (.int .i64 a0_1) := bz_ BK497 1
            have hcz57_2 : wc.cell? ⟨gb497, 2, none⟩ = some (.int .i64 a0_2) := bz_ BK497 2
            have hcz57_3 : wc.cell? ⟨gb497, 3, none⟩ = some (.string a0_3) := bz_ BK497 3
            have hcz57_4 : wc.cell? ⟨gb497, 4, none⟩ = some (.int .i64 a0_4) := bz_ BK497 4
            have hcz57_5 : wc.cell? ⟨gb497, 5, none⟩ = some (.bool a0_5) := bz_ BK497 5
            have hcz57_6 : wc.cell? ⟨gb497, 6, none⟩ = some (.int .i64 a0_6) := bz_ BK497 6
            have hfz57_0 := blk_frozen BK497.out 0
            have hfz57_1 := blk_frozen BK497.out 1
            have hfz57_2 := blk_frozen BK497.out 2
            have hfz57_3 := blk_frozen BK497.out 3
            have hfz57_4 := blk_frozen BK497.out 4
            have hfz57_5 := blk_frozen BK497.out 5
            have hfz57_6 := blk_frozen BK497.out 6
            have hcz58_0 : wc.cell? ⟨gb498, 0, none⟩ = some (.string (⟨#[]⟩ : ByteArray)) := bz_ BK498 0
            have hcz58_1 : wc.cell? ⟨gb498, 1, none⟩ = some (.int .i64 0) := bz_ BK498 1
            have hcz58_2 : wc.cell? ⟨gb498, 2, none⟩ = some (.int .i64 0) := bz_ BK498 2
            have hcz58_3 : wc.cell? ⟨gb498, 3, none⟩ = some (.string (⟨#[]⟩ : ByteArray)) := bz_ BK498 3
            have hcz58_4 : wc.cell? ⟨gb498, 4, none⟩ = some (.int .i64 0) := bz_ BK498 4
            have hcz58_5 : wc.cell? ⟨gb498, 5, none⟩ = some (.bool false) := bz_ BK498 5
            have hcz58_6 : wc.cell? ⟨gb498, 6, none⟩ = some (.int .i64 0) := bz_ BK498 6
            have hfz58_0 := blk_frozen BK498.out 0
            have hfz58_1 := blk_frozen BK498.out 1
            have hfz58_2 := blk_frozen BK498.out 2
            have hfz58_3 := blk_frozen BK498.out 3
            have hfz58_4 := blk_frozen BK498.out 4
            have hfz58_5 := blk_frozen BK498.out 5
            have hfz58_6 := blk_frozen BK498.out 6
            go_wp2
            refine bodyPost_ret (results_cell_row rfl _ _ gb498 32 #[.string a0_0, .int .i64 a0_1, .int .i64 a0_2, .string a0_3, .int .i64 a0_4, .bool a0_5, .int .i64 a0_6] (0, 0) _ rfl q5_ Try.underlying32 rfl (by kernel_rfl)) rfl ?_
            exact ⟨q103_, q70_⟩
end Go.Proofs.Ytcohcndliaaacaa.QFnCartWrites
