/- The machine's side of a law, written by a program of this session for this claim. -/
import Derived.Test.YtcohcndliaaacaaDoorYQq
import Derived.Test.YtcohcndliaaacaaDoorYQFnHeadersx0
import Derived.Test.YtcohcndliaaacaaDoorYQFnHeadersx5
import Derived.Test.YtcohcndliaaacaaDoorYQFnHeadersx6
import Derived.Test.YtcohcndliaaacaaDoorYQFnHeadersx9
import Derived.Test.YtcohcndliaaacaaDoorYQFnHeadersx10
namespace Go.Proofs.YtcohcndliaaacaaDoor.QFnHeaders
open Go.Proofs.YtcohcndliaaacaaDoor.Qq
open Go.RowKit Go.Proofs.YtcohcndliaaacaaDoor.LibX Go.Proofs.YtcohcndliaaacaaDoor.LibE Go.Proofs.YtcohcndliaaacaaDoorW.PrintWords Go.Proofs.YtcohcndliaaacaaDoorW.PrintLast Go.Proofs.YtcohcndliaaacaaDoorW.PrintMore
attribute [local go_sem] max2_int min2_int max_two min_two max_three min_three max_four min_four   -- for this text's walks alone
set_option maxHeartbeats 8000000
set_option maxRecDepth 100000
set_option linter.unusedVariables false
set_option linter.unusedSimpArgs false
mutual
def spec_l1Rd_ins.j1 : Nat → List Int → Int → Int → Bool → Int → Option (Int × Bool × Int × Int)
 | 0, _, _, _, _, _ => none
 | k + 1, x1000, x1001, x364000, x364001, x364002 => (spec_l1Rd_once.f x1000 x1001 40).bind fun bt371 => (if bt371.1 = true then ((spec_l1Rd_off.f k x1000 bt371.2 0 255).bind fun bt373 => (some (x364000, x364001, bt373.1, bt373.2))) else (some (x364000, x364001, x364002, bt371.2)))
def spec_l1Rd_ins.j0 : Nat → Bool → List Int → Int → Int → Bool → Int → Option (Int × Bool × Int × Int)
 | 0, _, _, _, _, _, _ => none
 | k + 1, x26, x1000, x1001, x364000, x364001, x364002 => if x26 = true then ((spec_l1Rd_byte.f x1000 x1001).bind fun bt369 => (spec_l1Rd_ins.j1 k x1000 bt369.2 x364000 x364001 bt369.1)) else (spec_l1Rd_ins.j1 k x1000 x1001 x364000 x364001 x364002)
end
def spec_l1Rd_ins.f (k : Nat) (s0_0 : List Int) (s0_1 : Int) : Option (Int × Bool × Int × Int) := (spec_l1Rd_below.f s0_0 s0_1 256).bind fun bt359 => ((spec_l1Rd_once.f s0_0 bt359.2 4).bind fun bt361 => ((spec_l3Template.f k bt359.1 bt361.1).bind fun t364 => ((spec_l3Hole.f k t364).bind fun bt365 => (if bt365.2.toList = ([110, 49, 54] : List UInt8) then ((spec_l1Rd_below.f s0_0 bt361.2 65536).bind fun bt367 => (spec_l1Rd_ins.j1 k s0_0 bt367.2 bt359.1 bt361.1 bt367.1)) else (if bt365.2.toList = ([110, 56] : List UInt8) then (spec_l1Rd_ins.j0 k (bt365.2.toList == ([110, 56] : List UInt8)) s0_0 bt361.2 bt359.1 bt361.1 0) else (spec_l1Rd_ins.j0 k (bt365.2.toList == ([101, 56] : List UInt8)) s0_0 bt361.2 bt359.1 bt361.1 0))))))
theorem spec_l1Rd_ins.mono_l : ∀ k, (∀ y0 y1 y2 y3 y4, LeO (spec_l1Rd_ins.j1 k y0 y1 y2 y3 y4) (spec_l1Rd_ins.j1 (k + 1) y0 y1 y2 y3 y4)) ∧ (∀ y0 y1 y2 y3 y4 y5, LeO (spec_l1Rd_ins.j0 k y0 y1 y2 y3 y4 y5) (spec_l1Rd_ins.j0 (k + 1) y0 y1 y2 y3 y4 y5))
 | 0 => ⟨fun _ _ _ _ _ r h => by simp [spec_l1Rd_ins.j1] at h, fun _ _ _ _ _ _ r h => by simp [spec_l1Rd_ins.j0] at h⟩
 | k + 1 => by
  obtain ⟨ih0, ih1⟩ := spec_l1Rd_ins.mono_l k
  refine ⟨?_, ?_⟩
  ·intro y0 y1 y2 y3 y4
   unfold spec_l1Rd_ins.j1
   repeat' first
   | (with_reducible first | exact ih0 _ _ _ _ _ | exact ih1 _ _ _ _ _ _ | exact spec_l1Rd_off.mono _ _ _ _ _ | exact spec_l3Hole.mono _ _ | exact spec_l3Template.mono _ _ _ | exact LeO.refl _ | exact LeO.none _ | refine LeO.ite ?_ ?_ | refine LeO.bind ?_ (fun _ => ?_))
   | exact ih0 _ _ _ _ _
   | exact ih1 _ _ _ _ _ _
   | exact spec_l1Rd_off.mono _ _ _ _ _
   | exact spec_l3Hole.mono _ _
   | exact spec_l3Template.mono _ _ _
   | exact LeO.none _
   | refine LeO.ite ?_ ?_
   | refine LeO.bind ?_ (fun _ => ?_)
  ·intro y0 y1 y2 y3 y4 y5
   unfold spec_l1Rd_ins.j0
   repeat' first
   | (with_reducible first | exact ih0 _ _ _ _ _ | exact ih1 _ _ _ _ _ _ | exact spec_l1Rd_off.mono _ _ _ _ _ | exact spec_l3Hole.mono _ _ | exact spec_l3Template.mono _ _ _ | exact LeO.refl _ | exact LeO.none _ | refine LeO.ite ?_ ?_ | refine LeO.bind ?_ (fun _ => ?_))
   | exact ih0 _ _ _ _ _
   | exact ih1 _ _ _ _ _ _
   | exact spec_l1Rd_off.mono _ _ _ _ _
   | exact spec_l3Hole.mono _ _
   | exact spec_l3Template.mono _ _ _
   | exact LeO.none _
   | refine LeO.ite ?_ ?_
   | refine LeO.bind ?_ (fun _ => ?_)
theorem spec_l1Rd_ins.mono : ∀ a0 a1 k, LeO (spec_l1Rd_ins.f k a0 a1) (spec_l1Rd_ins.f (k + 1) a0 a1) := by
 intro a0 a1 k
 obtain ⟨ih0, ih1⟩ := spec_l1Rd_ins.mono_l k
 unfold spec_l1Rd_ins.f
 repeat' first
   | (with_reducible first | exact ih0 _ _ _ _ _ | exact ih1 _ _ _ _ _ _ | exact spec_l1Rd_off.mono _ _ _ _ _ | exact spec_l3Hole.mono _ _ | exact spec_l3Template.mono _ _ _ | exact LeO.refl _ | exact LeO.none _ | refine LeO.ite ?_ ?_ | refine LeO.bind ?_ (fun _ => ?_))
   | exact ih0 _ _ _ _ _
   | exact ih1 _ _ _ _ _ _
   | exact spec_l1Rd_off.mono _ _ _ _ _
   | exact spec_l3Hole.mono _ _
   | exact spec_l3Template.mono _ _ _
   | exact LeO.none _
   | refine LeO.ite ?_ ?_
   | refine LeO.bind ?_ (fun _ => ?_)
theorem spec_l1Rd_ins.calls (k : Nat) (g : Nat) (s0_0 : List Int) (s0_1 : Int) (r1 : Int) (r2 : Bool) (r3 : Int) (r4 : Int) (w0 w : World) (hI : IsS73 w0 w g s0_0 s0_1) (hB : Below w0.heap.size w0 w) (h : spec_l1Rd_ins.f k s0_0 s0_1 = some (r1, r2, r3, r4)) :
  Calls Tryd.prog 84 #[.pointer (some ⟨g, 0, none⟩)] w fun e w' => e = .returned (.agg #[.int .i64 r1, .bool r2, .int .i64 r3]) ∧ IsS73 w0 w' g s0_0 r4 ∧ Below w0.heap.size w0 w' ∧ KeepBut w w' g none := by
 have hu78 := Tryd.underlying78
 have HI0 := Aside0.mk hI
 have HK := Aside0.mk (KeepBut.refl w g none)
 have HL := Aside0.mk hB.size
 clear hI
 have HW0 := Aside0.mk hB.size
 have HB := Aside0.mk hB
 clear hB
 have H : ((spec_l1Rd_below.f s0_0 s0_1 256).bind fun bt359 => ((spec_l1Rd_once.f s0_0 bt359.2 4).bind fun bt361 => ((spec_l3Template.f k bt359.1 bt361.1).bind fun t364 => ((spec_l3Hole.f k t364).bind fun bt365 => (if bt365.2.toList = ([110, 49, 54] : List UInt8) then ((spec_l1Rd_below.f s0_0 bt361.2 65536).bind fun bt367 => (spec_l1Rd_ins.j1 k s0_0 bt367.2 bt359.1 bt361.1 bt367.1)) else (if bt365.2.toList = ([110, 56] : List UInt8) then (spec_l1Rd_ins.j0 k (bt365.2.toList == ([110, 56] : List UInt8)) s0_0 bt361.2 bt359.1 bt361.1 0) else (spec_l1Rd_ins.j0 k (bt365.2.toList == ([101, 56] : List UInt8)) s0_0 bt361.2 bt359.1 bt361.1 0))))))) = some (r1, r2, r3, r4) := h
 clear h
 replace H := Option.bind_eq_some_iff.mp H
 obtain ⟨⟨t359, t360⟩, A20, H⟩ := H
 replace H : ((spec_l1Rd_once.f s0_0 t360 4).bind fun bt361 => ((spec_l3Template.f k t359 bt361.1).bind fun t364 => ((spec_l3Hole.f k t364).bind fun bt365 => (if bt365.2.toList = ([110, 49, 54] : List UInt8) then ((spec_l1Rd_below.f s0_0 bt361.2 65536).bind fun bt367 => (spec_l1Rd_ins.j1 k s0_0 bt367.2 t359 bt361.1 bt367.1)) else (if bt365.2.toList = ([110, 56] : List UInt8) then (spec_l1Rd_ins.j0 k (bt365.2.toList == ([110, 56] : List UInt8)) s0_0 bt361.2 t359 bt361.1 0) else (spec_l1Rd_ins.j0 k (bt365.2.toList == ([101, 56] : List UInt8)) s0_0 bt361.2 t359 bt361.1 0)))))) = some (r1, r2, r3, r4) := H
 have A2 := Aside0.mk A20
 clear A20
 replace H := Option.bind_eq_some_iff.mp H
 obtain ⟨⟨t361, t362⟩, A30, H⟩ := H
 replace H : ((spec_l3Template.f k t359 t361).bind fun t364 => ((spec_l3Hole.f k t364).bind fun bt365 => (if bt365.2.toList = ([110, 49, 54] : List UInt8) then ((spec_l1Rd_below.f s0_0 t362 65536).bind fun bt367 => (spec_l1Rd_ins.j1 k s0_0 bt367.2 t359 t361 bt367.1)) else (if bt365.2.toList = ([110, 56] : List UInt8) then (spec_l1Rd_ins.j0 k (bt365.2.toList == ([110, 56] : List UInt8)) s0_0 t362 t359 t361 0) else (spec_l1Rd_ins.j0 k (bt365.2.toList == ([101, 56] : List UInt8)) s0_0 t362 t359 t361 0))))) = some (r1, r2, r3, r4) := H
 have A3 := Aside0.mk A30
 clear A30
 replace H := Option.bind_eq_some_iff.mp H
 obtain ⟨t364, A40, H⟩ := H
 have A4 := Aside0.mk A40
 clear A40
 replace H := Option.bind_eq_some_iff.mp H
 obtain ⟨⟨t365, t366⟩, A50, H⟩ := H
 replace H : (if t366.toList = ([110, 49, 54] : List UInt8) then ((spec_l1Rd_below.f s0_0 t362 65536).bind fun bt367 => (spec_l1Rd_ins.j1 k s0_0 bt367.2 t359 t361 bt367.1)) else (if t366.toList = ([110, 56] : List UInt8) then (spec_l1Rd_ins.j0 k (t366.toList == ([110, 56] : List UInt8)) s0_0 t362 t359 t361 0) else (spec_l1Rd_ins.j0 k (t366.toList == ([101, 56] : List UInt8)) s0_0 t362 t359 t361 0))) = some (r1, r2, r3, r4) := H
 have A5 := Aside0.mk A50
 clear A50
 have HC6 := Aside0.mk H
 clear H
 go_enter Tryd.func84, Tryd.ntmps84
 go_upto_block 0 with (first | ((with_reducible refine gate_dst (N := 2) rfl ?_); refine box_event ?hg (N := 2) ?hd (cs := #[.int .i64 0, .bool false, .int .i64 0]) (t := 78) ?hr ?_; (case hd => rfl); (case hg => rfl); (case hr => exact q118_); intro gb358 hg w7 hbox hb; have n0_ := Aside0.mk (IsS73.below q52_ hb); have n1_ := Aside0.mk (KeepBut.trans q53_ (KeepBut.of_below hb g none) (.inl rfl)); have n2_ := Aside0.mk (below_step q39_ hb); have n3_ := Aside0.mk (hbox); have n4_ := Aside0.mk ((q25_ : w.heap.size ≤ gb358)); have n5_ := Aside0.mk ((Nat.le_trans HW0.out (q25_ : w.heap.size ≤ gb358) : w0.heap.size ≤ gb358)); have n6_ := Aside0.mk ((q19_ : g ≠ gb358)); have n7_ := Aside0.mk ((q20_ : gb358 ≠ g)); clear HI0; clear HK; clear HB; have HI0 := n0_; have HK := n1_; have HB := n2_; have BK358 := n3_; have GW358 := n4_; have GE358 := n5_; have NB0_358 := n6_; have NB358_0 := n7_; clear n0_ n1_ n2_ n3_ n4_ n5_ n6_ n7_; clear hb hbox hg) | ((with_reducible refine gate_callee (f := 40) rfl ?_); refine goesL_ (some 7) rfl rfl Tryd.func40 (by kernel_rfl) rfl #[.pointer (some ⟨g, 0, none⟩), .int .i64 256] rfl q55_ ?_; (with_reducible refine (spec_l1Rd_below.calls g s0_0 s0_1 256 t359 t360 w0 _ ?side1 ?side2 A2.out).mono ?_); (case side1 => exact q112_); (case side2 => exact q111_); rintro e w8 ⟨rfl, hi, hb, hk⟩; refine ⟨_, rfl, ?_⟩; have n0_ := Aside0.mk (KeepBut.blk hk (g' := gb358) (o := .cells #[.int .i64 0, .bool false, .int .i64 0] 78 (0, 0)) q68_ NB358_0.out (by simp)); have n1_ := Aside0.mk (KeepBut.trans q34_ hk (.inl rfl)); have n2_ := Aside0.mk (hb); have n3_ := Aside0.mk (hi); clear BK358; clear HK; clear HB; clear HI0; have BK358 := n0_; have HK := n1_; have HB := n2_; have HI0 := n3_; clear n0_ n1_ n2_ n3_; (try clear hb); (try clear hk); (try clear hi)) | ((with_reducible refine gate_callee (f := 37) rfl ?_); refine goesL_ (some 9) rfl rfl Tryd.func37 (by kernel_rfl) rfl #[.pointer (some ⟨g, 0, none⟩), .int .i64 4] rfl q55_ ?_; (with_reducible refine (spec_l1Rd_once.calls g s0_0 t360 4 t361 t362 w0 _ ?side1 ?side2 A3.out).mono ?_); (case side1 => exact q112_); (case side2 => exact q111_); rintro e w9 ⟨rfl, hi, hb, hk⟩; refine ⟨_, rfl, ?_⟩; have n0_ := Aside0.mk (KeepBut.blk hk (g' := gb358) (o := .cells #[.int .i64 0, .bool false, .int .i64 0] 78 (0, 0)) q68_ NB358_0.out (by simp)); have n1_ := Aside0.mk (KeepBut.trans q34_ hk (.inl rfl)); have n2_ := Aside0.mk (hb); have n3_ := Aside0.mk (hi); clear BK358; clear HK; clear HB; clear HI0; have BK358 := n0_; have HK := n1_; have HB := n2_; have HI0 := n3_; clear n0_ n1_ n2_ n3_; (try clear hb); (try clear hk); (try clear hi)) | ((with_reducible refine gate_dst (N := 3) rfl ?_); refine box_event ?hg (N := 3) ?hd (cs := #[.int .i64 0, .bool false, .int .i64 0]) (t := 78) ?hr ?_; (case hd => rfl); (case hg => rfl); (case hr => exact q118_); intro gb363 hg w10 hbox hb; have n0_ := Aside0.mk (IsS73.below (by repeat (first | (with_reducible first | exact HI0.out | apply IsS73.alloc | apply IsS73.drewN | apply IsS73.drew | apply IsS73.set_1 | refine IsS73.far ?_ NB0_358.out _) | exact HI0.out)) hb); have n1_ := Aside0.mk (blk_below (g := gb358) (o := .cells #[.int .i64 0, .bool false, .int .i64 0] 78 (0, 0)) q68_ hb); have n2_ := Aside0.mk (KeepBut.trans q34_ (KeepBut.of_below hb g none) (.inl rfl)); have n3_ := Aside0.mk (below_step (by repeat (first | (with_reducible first | exact HB.out | apply below_alloc | apply pw_below_drewN | apply below_drew1 | refine below_set ?_ (IsS73.ge HI0.out) | refine below_set ?_ GE358.out) | exact HB.out)) hb); have n4_ := Aside0.mk (hbox); have n5_ := Aside0.mk ((q15_ : w.heap.size ≤ gb363)); have n6_ := Aside0.mk ((Nat.le_trans HW0.out (q15_ : w.heap.size ≤ gb363) : w0.heap.size ≤ gb363)); have n7_ := Aside0.mk ((by rw [hg]; exact Nat.ne_of_lt (blk_lt (g := gb358) (o := .cells #[.int .i64 0, .bool false, .int .i64 0] 78 (0, 0)) q68_) : gb358 ≠ gb363)); have n8_ := Aside0.mk ((by rw [hg]; exact Nat.ne_of_gt (blk_lt (g := gb358) (o := .cells #[.int .i64 0, .bool false, .int .i64 0] 78 (0, 0)) q68_) : gb363 ≠ gb358)); have n9_ := Aside0.mk ((by rw [hg]; exact Nat.ne_of_lt (IsS73.lt (show IsS73 w0 _ g s0_0 t362 from by repeat (first | (with_reducible first | exact HI0.out | apply IsS73.alloc | apply IsS73.drewN | apply IsS73.drew | apply IsS73.set_1 | refine IsS73.far ?_ NB0_358.out _) | exact HI0.out))) : g ≠ gb363)); have n10_ := Aside0.mk ((by rw [hg]; exact Nat.ne_of_gt (IsS73.lt (show IsS73 w0 _ g s0_0 t362 from by repeat (first | (with_reducible first | exact HI0.out | apply IsS73.alloc | apply IsS73.drewN | apply IsS73.drew | apply IsS73.set_1 | refine IsS73.far ?_ NB0_358.out _) | exact HI0.out))) : gb363 ≠ g)); clear HI0; clear BK358; clear HK; clear HB; have HI0 := n0_; have BK358 := n1_; have HK := n2_; have HB := n3_; have BK363 := n4_; have GW363 := n5_; have GE363 := n6_; have NB358_363 := n7_; have NB363_358 := n8_; have NB0_363 := n9_; have NB363_0 := n10_; clear n0_ n1_ n2_ n3_ n4_ n5_ n6_ n7_ n8_ n9_ n10_; clear hb hbox hg; have hnb11 := NB363_358.out; have hnc11 := NB358_363.out; have hnb12 := NB363_0.out; have hnc12 := NB0_363.out; have hcz13_0 : w10.cell? ⟨gb363, 0, none⟩ = some (.int .i64 0) := (blk_cell BK363.out 0).trans rfl; have hcz13_1 : w10.cell? ⟨gb363, 1, none⟩ = some (.bool false) := (blk_cell BK363.out 1).trans rfl; have hcz13_2 : w10.cell? ⟨gb363, 2, none⟩ = some (.int .i64 0) := (blk_cell BK363.out 2).trans rfl; have hfz13_0 := blk_frozen BK363.out 0; have hfz13_1 := blk_frozen BK363.out 1; have hfz13_2 := blk_frozen BK363.out 2) | ((with_reducible refine gate_callee (f := 107) rfl ?_); refine goesL_ (some 16) rfl rfl Tryd.func107 (by kernel_rfl) rfl #[.int .i64 t359, .bool t361] rfl q55_ ?_; (with_reducible refine (spec_l3Template.calls k t359 t361 t364 _ A4.out).mono ?_); rintro e w14 ⟨rfl, hb⟩; refine ⟨_, rfl, ?_⟩; have n0_ := Aside0.mk (IsS73.below (show IsS73 w0 (((w10.setCell ⟨gb363, 0, none⟩ (.int .i64 t359)).setCell ⟨gb363, 1, none⟩ (.bool t361)).setCell ⟨gb363, 2, none⟩ (.int .i64 0)) g s0_0 t362 from by repeat (first | (with_reducible first | exact HI0.out | apply IsS73.alloc | apply IsS73.drewN | apply IsS73.drew | apply IsS73.set_1 | refine IsS73.far ?_ NB0_358.out _ | refine IsS73.far ?_ NB0_363.out _) | exact HI0.out)) hb); have n1_ := Aside0.mk (blk_below (g := gb358) (o := .cells #[.int .i64 0, .bool false, .int .i64 0] 78 (0, 0)) (by (with_reducible repeat (first | refine blk_drewN ?_ _ | refine blk_drew ?_ | refine blk_alloc ?_ _)); refine blk_far ?_ NB358_363.out _; (with_reducible repeat (first | refine blk_drewN ?_ _ | refine blk_drew ?_ | refine blk_alloc ?_ _)); refine blk_far ?_ NB358_363.out _; (with_reducible repeat (first | refine blk_drewN ?_ _ | refine blk_drew ?_ | refine blk_alloc ?_ _)); refine blk_far ?_ NB358_363.out _; (with_reducible repeat (first | refine blk_drewN ?_ _ | refine blk_drew ?_ | refine blk_alloc ?_ _)); exact BK358.out) hb); have n2_ := Aside0.mk (blk_below (g := gb363) (o := .cells #[.int .i64 t359, .bool t361, .int .i64 0] 78 (0, 0)) (by (with_reducible repeat (first | refine blk_drewN ?_ _ | refine blk_drew ?_ | refine blk_alloc ?_ _)); refine blk_put (cs := #[.int .i64 t359, .bool t361, .int .i64 0]) ?_ 2 _ rfl; (with_reducible repeat (first | refine blk_drewN ?_ _ | refine blk_drew ?_ | refine blk_alloc ?_ _)); refine blk_put (cs := #[.int .i64 t359, .bool false, .int .i64 0]) ?_ 1 _ rfl; (with_reducible repeat (first | refine blk_drewN ?_ _ | refine blk_drew ?_ | refine blk_alloc ?_ _)); refine blk_put (cs := #[.int .i64 0, .bool false, .int .i64 0]) ?_ 0 _ rfl; (with_reducible repeat (first | refine blk_drewN ?_ _ | refine blk_drew ?_ | refine blk_alloc ?_ _)); exact BK363.out) hb); have n3_ := Aside0.mk (KeepBut.trans q23_ (KeepBut.of_below hb g none) (.inl rfl)); have n4_ := Aside0.mk (below_step q17_ hb); clear HI0; clear BK358; clear BK363; clear HK; clear HB; have HI0 := n0_; have BK358 := n1_; have BK363 := n2_; have HK := n3_; have HB := n4_; clear n0_ n1_ n2_ n3_ n4_; (try clear hb)) | ((with_reducible refine gate_callee (f := 106) rfl ?_); refine goesL_ (some 17) rfl rfl Tryd.func106 (by kernel_rfl) rfl #[.string t364] rfl q55_ ?_; (with_reducible refine (spec_l3Hole.calls k t364 t365 t366 _ A5.out).mono ?_); rintro e w15 ⟨rfl, hb⟩; refine ⟨_, rfl, ?_⟩; have n0_ := Aside0.mk (IsS73.below q21_ hb); have n1_ := Aside0.mk (blk_below (g := gb358) (o := .cells #[.int .i64 0, .bool false, .int .i64 0] 78 (0, 0)) q68_ hb); have n2_ := Aside0.mk (blk_below (g := gb363) (o := .cells #[.int .i64 t359, .bool t361, .int .i64 0] 78 (0, 0)) q69_ hb); have n3_ := Aside0.mk (KeepBut.trans q23_ (KeepBut.of_below hb g none) (.inl rfl)); have n4_ := Aside0.mk (below_step q17_ hb); clear HI0; clear BK358; clear BK363; clear HK; clear HB; have HI0 := n0_; have BK358 := n1_; have BK363 := n2_; have HK := n3_; have HB := n4_; clear n0_ n1_ n2_ n3_ n4_; (try clear hb)))
 (try simp only [Act.put, List.setIfInBounds_toArray, List.set_cons_zero, List.set_cons_succ])
 go_cut [] (fun wc => ∃ (kq : Nat) (x1001_5 : Int) (x364002_5 : Int), Aside0 (spec_l1Rd_ins.j1 kq s0_0 x1001_5 t359 t361 x364002_5 = some (r1, r2, r3, r4)) ∧ Aside0 (kq ≤ k) ∧ Aside0 (wc.heap[gb358]? = some (.cells #[.int .i64 0, .bool false, .int .i64 0] 78 (0, 0))) ∧ Aside0 (wc.heap[gb363]? = some (.cells #[.int .i64 t359, .bool t361, .int .i64 x364002_5] 78 (0, 0))) ∧ Aside0 (IsS73 w0 wc g s0_0 x1001_5) ∧ Aside0 (KeepBut w wc g none) ∧ Aside0 (Below w0.heap.size w0 wc))
 case first =>
  have H := HC6.out
  clear HC6
  by_cases c16 : t366.toList = ([110, 49, 54] : List UInt8)
  ·rw [if_pos c16] at H
   have c16b0 : (t366.toList == ([110, 49, 54] : List UInt8)) = true := beq_iff_eq.mpr c16
   have c16b1 : (t366.toList != ([110, 49, 54] : List UInt8)) = false := bne_eq_false_iff_eq.mpr c16
   clear c16
   (first | rw [c16b0] | (simp only [i64_w, i32_w]; rw [c16b0]) | skip)
   replace H := Option.bind_eq_some_iff.mp H
   obtain ⟨⟨t367, t368⟩, A170, H⟩ := H
   replace H : (spec_l1Rd_ins.j1 k s0_0 t368 t359 t361 t367) = some (r1, r2, r3, r4) := H
   have A17 := Aside0.mk A170
   clear A170
   have H' := Aside0.mk H
   clear H
   go_wp2_with (first | ((with_reducible refine gate_callee (f := 40) rfl ?_); refine goesL_ (some 24) rfl rfl Tryd.func40 (by kernel_rfl) rfl #[.pointer (some ⟨g, 0, none⟩), .int .i64 65536] rfl q55_ ?_; (with_reducible refine (spec_l1Rd_below.calls g s0_0 t362 65536 t367 t368 w0 _ ?side1 ?side2 A17.out).mono ?_); (case side1 => exact q109_); (case side2 => exact q107_); rintro e w18 ⟨rfl, hi, hb, hk⟩; refine ⟨_, rfl, ?_⟩; have n0_ := Aside0.mk (KeepBut.blk hk (g' := gb358) (o := .cells #[.int .i64 0, .bool false, .int .i64 0] 78 (0, 0)) q68_ NB358_0.out (by simp)); have n1_ := Aside0.mk (KeepBut.blk hk (g' := gb363) (o := .cells #[.int .i64 t359, .bool t361, .int .i64 0] 78 (0, 0)) q69_ NB363_0.out (by simp)); have n2_ := Aside0.mk (KeepBut.trans q23_ hk (.inl rfl)); have n3_ := Aside0.mk (hb); have n4_ := Aside0.mk (hi); clear BK358; clear BK363; clear HK; clear HB; clear HI0; have BK358 := n0_; have BK363 := n1_; have HK := n2_; have HB := n3_; have HI0 := n4_; clear n0_ n1_ n2_ n3_ n4_; (try clear hb); (try clear hk); (try clear hi); have hnb19 := NB363_358.out; have hnc19 := NB358_363.out; have hnb20 := NB363_0.out; have hnc20 := NB0_363.out; have hcz21_0 : w18.cell? ⟨gb363, 0, none⟩ = some (.int .i64 t359) := (blk_cell BK363.out 0).trans rfl; have hcz21_1 : w18.cell? ⟨gb363, 1, none⟩ = some (.bool t361) := (blk_cell BK363.out 1).trans rfl; have hcz21_2 : w18.cell? ⟨gb363, 2, none⟩ = some (.int .i64 0) := (blk_cell BK363.out 2).trans rfl; have hfz21_0 := blk_frozen BK363.out 0; have hfz21_1 := blk_frozen BK363.out 1; have hfz21_2 := blk_frozen BK363.out 2))
   go_meet
   case rel => exact ⟨_, (t368), (t367), H', ⟨q102_⟩, ⟨q14_⟩, ⟨q7_⟩, ⟨q21_⟩, ⟨q23_⟩, ⟨q17_⟩⟩
  ·rw [if_neg c16] at H
   have c16b0 : (t366.toList == ([110, 49, 54] : List UInt8)) = false := beq_eq_false_iff_ne.mpr c16
   have c16b1 : (t366.toList != ([110, 49, 54] : List UInt8)) = true := bne_iff_ne.mpr c16
   (first | rw [c16b0] | (simp only [i64_w, i32_w]; rw [c16b0]) | skip)
   have HC22 := Aside0.mk H
   clear H
   go_upto_if 26 with (fail)
   go_cut [26] (fun v26 wc => ∃ (kq : Nat) (x26_21 : Bool), v26 = .bool x26_21 ∧ Aside0 (spec_l1Rd_ins.j0 kq x26_21 s0_0 t362 t359 t361 0 = some (r1, r2, r3, r4)) ∧ Aside0 (kq ≤ k) ∧ Aside0 (wc.heap[gb358]? = some (.cells #[.int .i64 0, .bool false, .int .i64 0] 78 (0, 0))) ∧ Aside0 (wc.heap[gb363]? = some (.cells #[.int .i64 t359, .bool t361, .int .i64 0] 78 (0, 0))) ∧ Aside0 (IsS73 w0 wc g s0_0 t362) ∧ Aside0 (KeepBut w wc g none) ∧ Aside0 (Below w0.heap.size w0 wc))
   case first =>
    have H := HC22.out
    clear HC22
    by_cases c23 : t366.toList = ([110, 56] : List UInt8)
    ·rw [if_pos c23] at H
     have c23b0 : (t366.toList == ([110, 56] : List UInt8)) = true := beq_iff_eq.mpr c23
     have c23b1 : (t366.toList != ([110, 56] : List UInt8)) = false := bne_eq_false_iff_eq.mpr c23
     clear c23
     (first | rw [c23b0] | (simp only [i64_w, i32_w]; rw [c23b0]) | skip)
     have H' := Aside0.mk H
     clear H
     go_wp2
     go_meet
     case rel => exact ⟨_, ((t366.toList == ([110, 56] : List UInt8))), q74_, H', ⟨q102_⟩, ⟨q68_⟩, ⟨q69_⟩, ⟨q21_⟩, ⟨q23_⟩, ⟨q17_⟩⟩
    ·rw [if_neg c23] at H
     have c23b0 : (t366.toList == ([110, 56] : List UInt8)) = false := beq_eq_false_iff_ne.mpr c23
     have c23b1 : (t366.toList != ([110, 56] : List UInt8)) = true := bne_iff_ne.mpr c23
     (first | rw [c23b0] | (simp only [i64_w, i32_w]; rw [c23b0]) | skip)
     have H' := Aside0.mk H
     clear H
     go_wp2
     go_meet
     case rel => exact ⟨_, ((t366.toList == ([101, 56] : List UInt8))), q74_, H', ⟨q102_⟩, ⟨q68_⟩, ⟨q69_⟩, ⟨q21_⟩, ⟨q23_⟩, ⟨q17_⟩⟩
   case rest =>
    clear HC22
    try clear c1
    try clear c2
    try clear p2
    try clear c3
    try clear c4
    try clear p6
    try clear c8
    try clear c10
    try clear c11
    try clear c12
    try clear c16
    try clear c16b0
    try clear c16b1
    try clear c19
    try clear c20
    try clear c23
    try clear c23b0
    try clear c23b1
    try clear hcz13_0 hcz13_1 hcz13_2
    try clear hcz21_0 hcz21_1 hcz21_2
    try clear hfz13_0 hfz13_1 hfz13_2
    try clear hfz21_0 hfz21_1 hfz21_2
    obtain ⟨kq, x26_21, rfl, HA, HJ21, BK358, BK363, HI0, HK, HB⟩ := hcut
    cases kq with
    | zero => exact absurd HA.out (by simp [spec_l1Rd_ins.j0])
    | succ kj21 =>
     have H := HA.out
     clear HA
     simp only [spec_l1Rd_ins.j0] at H
     by_cases c24 : x26_21 = true
     ·subst c24
      replace H : ((spec_l1Rd_byte.f s0_0 t362).bind fun bt369 => (spec_l1Rd_ins.j1 kj21 s0_0 bt369.2 t359 t361 bt369.1)) = some (r1, r2, r3, r4) := by rw [if_pos rfl] at H; exact H
      replace H := Option.bind_eq_some_iff.mp H
      obtain ⟨⟨t369, t370⟩, A250, H⟩ := H
      replace H : (spec_l1Rd_ins.j1 kj21 s0_0 t370 t359 t361 t369) = some (r1, r2, r3, r4) := H
      have A25 := Aside0.mk A250
      clear A250
      have H' := Aside0.mk H
      clear H
      go_wp2_with (first | ((with_reducible refine gate_callee (f := 85) rfl ?_); refine goesL_ (some 30) rfl rfl Tryd.func85 (by kernel_rfl) rfl #[.pointer (some ⟨g, 0, none⟩)] rfl q55_ ?_; (with_reducible refine (spec_l1Rd_byte.calls g s0_0 t362 t369 t370 w0 _ ?side1 ?side2 A25.out).mono ?_); (case side1 => exact q109_); (case side2 => exact q107_); rintro e w26 ⟨rfl, hi, hb, hk⟩; refine ⟨_, rfl, ?_⟩; have n0_ := Aside0.mk (KeepBut.blk hk (g' := gb358) (o := .cells #[.int .i64 0, .bool false, .int .i64 0] 78 (0, 0)) q68_ NB358_0.out (by simp)); have n1_ := Aside0.mk (KeepBut.blk hk (g' := gb363) (o := .cells #[.int .i64 t359, .bool t361, .int .i64 0] 78 (0, 0)) q69_ NB363_0.out (by simp)); have n2_ := Aside0.mk (KeepBut.trans q23_ hk (.inl rfl)); have n3_ := Aside0.mk (hb); have n4_ := Aside0.mk (hi); clear BK358; clear BK363; clear HK; clear HB; clear HI0; have BK358 := n0_; have BK363 := n1_; have HK := n2_; have HB := n3_; have HI0 := n4_; clear n0_ n1_ n2_ n3_ n4_; (try clear hb); (try clear hk); (try clear hi); have hnb27 := NB363_358.out; have hnc27 := NB358_363.out; have hnb28 := NB363_0.out; have hnc28 := NB0_363.out; have hcz29_0 : w26.cell? ⟨gb363, 0, none⟩ = some (.int .i64 t359) := (blk_cell BK363.out 0).trans rfl; have hcz29_1 : w26.cell? ⟨gb363, 1, none⟩ = some (.bool t361) := (blk_cell BK363.out 1).trans rfl; have hcz29_2 : w26.cell? ⟨gb363, 2, none⟩ = some (.int .i64 0) := (blk_cell BK363.out 2).trans rfl; have hfz29_0 := blk_frozen BK363.out 0; have hfz29_1 := blk_frozen BK363.out 1; have hfz29_2 := blk_frozen BK363.out 2))
      go_meet
      case rel => exact ⟨_, (t370), (t369), H', ⟨by have := HJ21.out; first | omega | exact Nat.le_refl _⟩, ⟨q14_⟩, ⟨q7_⟩, ⟨q21_⟩, ⟨q23_⟩, ⟨q17_⟩⟩
     ·replace c24 := Bool.eq_false_iff.mpr c24
      subst c24
      replace H : (spec_l1Rd_ins.j1 kj21 s0_0 t362 t359 t361 0) = some (r1, r2, r3, r4) := by rw [if_neg (show ¬ (false = true) by decide)] at H; exact H
      have H' := Aside0.mk H
      clear H
      go_wp2
      go_meet
      case rel => exact ⟨_, (t362), (0), H', ⟨by have := HJ21.out; first | omega | exact Nat.le_refl _⟩, ⟨q68_⟩, ⟨q69_⟩, ⟨q21_⟩, ⟨q23_⟩, ⟨q17_⟩⟩
 case rest =>
  clear HC6
  try clear c1
  try clear c2
  try clear p2 p2
  try clear c3
  try clear c4
  try clear p6 p6
  try clear c8
  try clear c10
  try clear c11
  try clear c12
  try clear c16
  try clear c16b0
  try clear c16b1
  try clear c19
  try clear c20
  try clear c23
  try clear c23b0
  try clear c23b1
  try clear c24
  try clear c27
  try clear c28
  try clear hcz13_0 hcz13_1 hcz13_2
  try clear hcz21_0 hcz21_1 hcz21_2
  try clear hcz29_0 hcz29_1 hcz29_2
  try clear hfz13_0 hfz13_1 hfz13_2
  try clear hfz21_0 hfz21_1 hfz21_2
  try clear hfz29_0 hfz29_1 hfz29_2
  obtain ⟨kq, x1001_5, x364002_5, HA, HJ5, BK358, BK363, HI0, HK, HB⟩ := hcut
  cases kq with
  | zero => exact absurd HA.out (by simp [spec_l1Rd_ins.j1])
  | succ kj5 =>
   have H := HA.out
   clear HA
   simp only [spec_l1Rd_ins.j1] at H
   replace H := Option.bind_eq_some_iff.mp H
   obtain ⟨⟨t371, t372⟩, A300, H⟩ := H
   replace H : (if t371 = true then ((spec_l1Rd_off.f kj5 s0_0 t372 0 255).bind fun bt373 => (some (t359, t361, bt373.1, bt373.2))) else (some (t359, t361, x364002_5, t372))) = some (r1, r2, r3, r4) := H
   have A30 := Aside0.mk A300
   clear A300
   by_cases c31 : t371 = true
   ·subst c31
    replace H : ((spec_l1Rd_off.f kj5 s0_0 t372 0 255).bind fun bt373 => (some (t359, t361, bt373.1, bt373.2))) = some (r1, r2, r3, r4) := by rw [if_pos rfl] at H; exact H
    replace H := Option.bind_eq_some_iff.mp H
    obtain ⟨⟨t373, t374⟩, A320, H⟩ := H
    replace H : (some (t359, t361, t373, t374)) = some (r1, r2, r3, r4) := H
    have A32 := Aside0.mk A320
    clear A320
    simp only [Option.some.injEq, Prod.mk.injEq] at H
    obtain ⟨rfl, rfl, rfl, rfl⟩ := H
    go_wp2_with (first | ((with_reducible refine gate_callee (f := 37) rfl ?_); refine goesL_ (some 33) rfl rfl Tryd.func37 (by kernel_rfl) rfl #[.pointer (some ⟨g, 0, none⟩), .int .i64 40] rfl q55_ ?_; (with_reducible refine (spec_l1Rd_once.calls g s0_0 x1001_5 40 true t372 w0 _ ?side1 ?side2 A30.out).mono ?_); (case side1 => exact q109_); (case side2 => exact q107_); rintro e w33 ⟨rfl, hi, hb, hk⟩; refine ⟨_, rfl, ?_⟩; have n0_ := Aside0.mk (KeepBut.blk hk (g' := gb358) (o := .cells #[.int .i64 0, .bool false, .int .i64 0] 78 (0, 0)) q68_ NB358_0.out (by simp)); have n1_ := Aside0.mk (KeepBut.blk hk (g' := gb363) (o := .cells #[.int .i64 t359, .bool t361, .int .i64 x364002_5] 78 (0, 0)) q69_ NB363_0.out (by simp)); have n2_ := Aside0.mk (KeepBut.trans q23_ hk (.inl rfl)); have n3_ := Aside0.mk (hb); have n4_ := Aside0.mk (hi); clear BK358; clear BK363; clear HK; clear HB; clear HI0; have BK358 := n0_; have BK363 := n1_; have HK := n2_; have HB := n3_; have HI0 := n4_; clear n0_ n1_ n2_ n3_ n4_; (try clear hb); (try clear hk); (try clear hi)) | ((with_reducible refine gate_callee (f := 46) rfl ?_); refine goesL_ (some 35) rfl rfl Tryd.func46 (by kernel_rfl) rfl #[.pointer (some ⟨g, 0, none⟩), .int .i64 0, .int .i64 255] rfl q55_ ?_; (with_reducible refine (spec_l1Rd_off.calls kj5 g s0_0 t372 0 255 t373 t374 w0 _ ?side1 ?side2 A32.out).mono ?_); (case side1 => exact q109_); (case side2 => exact q107_); rintro e w34 ⟨rfl, hi, hb, hk⟩; refine ⟨_, rfl, ?_⟩; have n0_ := Aside0.mk (KeepBut.blk hk (g' := gb358) (o := .cells #[.int .i64 0, .bool false, .int .i64 0] 78 (0, 0)) q68_ NB358_0.out (by simp)); have n1_ := Aside0.mk (KeepBut.blk hk (g' := gb363) (o := .cells #[.int .i64 t359, .bool t361, .int .i64 x364002_5] 78 (0, 0)) q69_ NB363_0.out (by simp)); have n2_ := Aside0.mk (KeepBut.trans q23_ hk (.inl rfl)); have n3_ := Aside0.mk (hb); have n4_ := Aside0.mk (hi); clear BK358; clear BK363; clear HK; clear HB; clear HI0; have BK358 := n0_; have BK363 := n1_; have HK := n2_; have HB := n3_; have HI0 := n4_; clear n0_ n1_ n2_ n3_ n4_; (try clear hb); (try clear hk); (try clear hi); have hnb35 := NB363_358.out; have hnc35 := NB358_363.out; have hnb36 := NB363_0.out; have hnc36 := NB0_363.out; have hcz37_0 : w34.cell? ⟨gb363, 0, none⟩ = some (.int .i64 t359) := (blk_cell BK363.out 0).trans rfl; have hcz37_1 : w34.cell? ⟨gb363, 1, none⟩ = some (.bool t361) := (blk_cell BK363.out 1).trans rfl; have hcz37_2 : w34.cell? ⟨gb363, 2, none⟩ = some (.int .i64 x364002_5) := (blk_cell BK363.out 2).trans rfl; have hfz37_0 := blk_frozen BK363.out 0; have hfz37_1 := blk_frozen BK363.out 1; have hfz37_2 := blk_frozen BK363.out 2; have hnb38 := NB358_0.out; have hnc38 := NB0_358.out; have hcz39_0 : w34.cell? ⟨gb358, 0, none⟩ = some (.int .i64 0) := (blk_cell BK358.out 0).trans rfl; have hcz39_1 : w34.cell? ⟨gb358, 1, none⟩ = some (.bool false) := (blk_cell BK358.out 1).trans rfl; have hcz39_2 : w34.cell? ⟨gb358, 2, none⟩ = some (.int .i64 0) := (blk_cell BK358.out 2).trans rfl; have hfz39_0 := blk_frozen BK358.out 0; have hfz39_1 := blk_frozen BK358.out 1; have hfz39_2 := blk_frozen BK358.out 2))
    refine bodyPost_ret (results_cell_row rfl _ _ gb358 78 #[.int .i64 t359, .bool t361, .int .i64 t373] (0, 0) _ rfl (by (with_reducible repeat (first | refine blk_drewN ?_ _ | refine blk_drew ?_ | refine blk_alloc ?_ _)); refine blk_put (cs := #[.int .i64 t359, .bool t361, .int .i64 0]) ?_ 2 _ rfl; (with_reducible repeat (first | refine blk_drewN ?_ _ | refine blk_drew ?_ | refine blk_alloc ?_ _)); refine blk_put (cs := #[.int .i64 t359, .bool false, .int .i64 0]) ?_ 1 _ rfl; (with_reducible repeat (first | refine blk_drewN ?_ _ | refine blk_drew ?_ | refine blk_alloc ?_ _)); refine blk_put (cs := #[.int .i64 0, .bool false, .int .i64 0]) ?_ 0 _ rfl; (with_reducible repeat (first | refine blk_drewN ?_ _ | refine blk_drew ?_ | refine blk_alloc ?_ _)); refine blk_far ?_ NB358_363.out _; (with_reducible repeat (first | refine blk_drewN ?_ _ | refine blk_drew ?_ | refine blk_alloc ?_ _)); exact BK358.out) Tryd.underlying78 rfl (by kernel_rfl)) rfl ?_
    exact ⟨q60_, q21_, q17_, q23_⟩
   ·replace c31 := Bool.eq_false_iff.mpr c31
    subst c31
    replace H : (some (t359, t361, x364002_5, t372)) = some (r1, r2, r3, r4) := by rw [if_neg (show ¬ (false = true) by decide)] at H; exact H
    simp only [Option.some.injEq, Prod.mk.injEq] at H
    obtain ⟨rfl, rfl, rfl, rfl⟩ := H
    go_wp2_with (first | ((with_reducible refine gate_callee (f := 37) rfl ?_); refine goesL_ (some 33) rfl rfl Tryd.func37 (by kernel_rfl) rfl #[.pointer (some ⟨g, 0, none⟩), .int .i64 40] rfl q55_ ?_; (with_reducible refine (spec_l1Rd_once.calls g s0_0 x1001_5 40 false t372 w0 _ ?side1 ?side2 A30.out).mono ?_); (case side1 => exact q109_); (case side2 => exact q107_); rintro e w40 ⟨rfl, hi, hb, hk⟩; refine ⟨_, rfl, ?_⟩; have n0_ := Aside0.mk (KeepBut.blk hk (g' := gb358) (o := .cells #[.int .i64 0, .bool false, .int .i64 0] 78 (0, 0)) q68_ NB358_0.out (by simp)); have n1_ := Aside0.mk (KeepBut.blk hk (g' := gb363) (o := .cells #[.int .i64 t359, .bool t361, .int .i64 x364002_5] 78 (0, 0)) q69_ NB363_0.out (by simp)); have n2_ := Aside0.mk (KeepBut.trans q23_ hk (.inl rfl)); have n3_ := Aside0.mk (hb); have n4_ := Aside0.mk (hi); clear BK358; clear BK363; clear HK; clear HB; clear HI0; have BK358 := n0_; have BK363 := n1_; have HK := n2_; have HB := n3_; have HI0 := n4_; clear n0_ n1_ n2_ n3_ n4_; (try clear hb); (try clear hk); (try clear hi); have hnb41 := NB363_358.out; have hnc41 := NB358_363.out; have hnb42 := NB363_0.out; have hnc42 := NB0_363.out; have hcz43_0 : w40.cell? ⟨gb363, 0, none⟩ = some (.int .i64 t359) := (blk_cell BK363.out 0).trans rfl; have hcz43_1 : w40.cell? ⟨gb363, 1, none⟩ = some (.bool t361) := (blk_cell BK363.out 1).trans rfl; have hcz43_2 : w40.cell? ⟨gb363, 2, none⟩ = some (.int .i64 x364002_5) := (blk_cell BK363.out 2).trans rfl; have hfz43_0 := blk_frozen BK363.out 0; have hfz43_1 := blk_frozen BK363.out 1; have hfz43_2 := blk_frozen BK363.out 2; have hnb44 := NB358_0.out; have hnc44 := NB0_358.out; have hcz45_0 : w40.cell? ⟨gb358, 0, none⟩ = some (.int .i64 0) := (blk_cell BK358.out 0).trans rfl; have hcz45_1 : w40.cell? ⟨gb358, 1, none⟩ = some (.bool false) := (blk_cell BK358.out 1).trans rfl; have hcz45_2 : w40.cell? ⟨gb358, 2, none⟩ = some (.int .i64 0) := (blk_cell BK358.out 2).trans rfl; have hfz45_0 := blk_frozen BK358.out 0; have hfz45_1 := blk_frozen BK358.out 1; have hfz45_2 := blk_frozen BK358.out 2))
    refine bodyPost_ret (results_cell_row rfl _ _ gb358 78 #[.int .i64 t359, .bool t361, .int .i64 x364002_5] (0, 0) _ rfl (by (with_reducible repeat (first | refine blk_drewN ?_ _ | refine blk_drew ?_ | refine blk_alloc ?_ _)); refine blk_put (cs := #[.int .i64 t359, .bool t361, .int .i64 0]) ?_ 2 _ rfl; (with_reducible repeat (first | refine blk_drewN ?_ _ | refine blk_drew ?_ | refine blk_alloc ?_ _)); refine blk_put (cs := #[.int .i64 t359, .bool false, .int .i64 0]) ?_ 1 _ rfl; (with_reducible repeat (first | refine blk_drewN ?_ _ | refine blk_drew ?_ | refine blk_alloc ?_ _)); refine blk_put (cs := #[.int .i64 0, .bool false, .int .i64 0]) ?_ 0 _ rfl; (with_reducible repeat (first | refine blk_drewN ?_ _ | refine blk_drew ?_ | refine blk_alloc ?_ _)); exact BK358.out) Tryd.underlying78 rfl (by kernel_rfl)) rfl ?_
    exact ⟨q60_, q21_, q17_, q23_⟩
def spec_l1Rd_plain.j0 : Nat → Bool → List Int → Int → Int → Bool → Int → Option (Int × Bool × Int × Int)
 | 0, _, _, _, _, _, _ => none
 | k + 1, x11, x1000, x1001, x381000, x381001, x381002 => if x11 = true then (some (x381000, x381001, x381002, x1001)) else ((spec_l1Rd_below.f x1000 x1001 10).bind fun bt383 => (if bt383.1 = 0 then ((spec_l1Rd_byte.f x1000 bt383.2).bind fun bt385 => (some (62, false, bt385.1, bt385.2))) else (if bt383.1 = 1 then ((some (([49152, 65408, 256, 128, 40960] : List Int) : List Int)).bind fun y387 => ((spec_l1Rd_below.f x1000 bt383.2 5).bind fun bt390 => (if 0 ≤ bt390.1 then (if bt390.1 < (y387.length : Int) then (some (33, false, rd y387 bt390.1, bt390.2)) else (none)) else (none)))) else (if bt383.1 = 2 then (some (119, false, 0, bt383.2)) else (if bt383.1 = 3 then (some (224, false, 1, bt383.2)) else (if bt383.1 = 4 then ((some (([49152, 65281, 130, 10, 300, 40961] : List Int) : List Int)).bind fun y393 => ((spec_l1Rd_below.f x1000 bt383.2 6).bind fun bt396 => (if 0 ≤ bt396.1 then (if bt396.1 < (y393.length : Int) then (some (234, false, rd y393 bt396.1, bt396.2)) else (none)) else (none)))) else (if x381000 ≥ 192 then (if x381002 > 511 then (some (x381000, x381001, Int.tmod x381002 40, bt383.2)) else (some (x381000, x381001, x381002, bt383.2))) else (some (x381000, x381001, x381002, bt383.2)))))))))
def spec_l1Rd_plain.f (k : Nat) (s0_0 : List Int) (s0_1 : Int) : Option (Int × Bool × Int × Int) := (spec_l1Rd_ins.f k s0_0 s0_1).bind fun bt376 => (if bt376.2.1 = true then (spec_l1Rd_plain.j0 k true s0_0 bt376.2.2.2 bt376.1 bt376.2.1 bt376.2.2.1) else ((spec_l1Rd_once.f s0_0 bt376.2.2.2 6).bind fun bt381 => (spec_l1Rd_plain.j0 k bt381.1 s0_0 bt381.2 bt376.1 bt376.2.1 bt376.2.2.1)))
theorem spec_l1Rd_plain.mono_l : ∀ k, (∀ y0 y1 y2 y3 y4 y5, LeO (spec_l1Rd_plain.j0 k y0 y1 y2 y3 y4 y5) (spec_l1Rd_plain.j0 (k + 1) y0 y1 y2 y3 y4 y5))
 | 0 => fun _ _ _ _ _ _ r h => by simp [spec_l1Rd_plain.j0] at h
 | k + 1 => by
  have ih0 := spec_l1Rd_plain.mono_l k
  ·intro y0 y1 y2 y3 y4 y5
   unfold spec_l1Rd_plain.j0
   repeat' first
   | (with_reducible first | exact ih0 _ _ _ _ _ _ | exact spec_l1Rd_ins.mono _ _ _ | exact LeO.refl _ | exact LeO.none _ | refine LeO.ite ?_ ?_ | refine LeO.bind ?_ (fun _ => ?_))
   | exact ih0 _ _ _ _ _ _
   | exact spec_l1Rd_ins.mono _ _ _
   | exact LeO.none _
   | refine LeO.ite ?_ ?_
   | refine LeO.bind ?_ (fun _ => ?_)
theorem spec_l1Rd_plain.mono : ∀ a0 a1 k, LeO (spec_l1Rd_plain.f k a0 a1) (spec_l1Rd_plain.f (k + 1) a0 a1) := by
 intro a0 a1 k
 have ih0 := spec_l1Rd_plain.mono_l k
 unfold spec_l1Rd_plain.f
 repeat' first
   | (with_reducible first | exact ih0 _ _ _ _ _ _ | exact spec_l1Rd_ins.mono _ _ _ | exact LeO.refl _ | exact LeO.none _ | refine LeO.ite ?_ ?_ | refine LeO.bind ?_ (fun _ => ?_))
   | exact ih0 _ _ _ _ _ _
   | exact spec_l1Rd_ins.mono _ _ _
   | exact LeO.none _
   | refine LeO.ite ?_ ?_
   | refine LeO.bind ?_ (fun _ => ?_)
theorem spec_l1Rd_plain.calls (k : Nat) (g : Nat) (s0_0 : List Int) (s0_1 : Int) (r1 : Int) (r2 : Bool) (r3 : Int) (r4 : Int) (w0 w : World) (hI : IsS73 w0 w g s0_0 s0_1) (hB : Below w0.heap.size w0 w) (h : spec_l1Rd_plain.f k s0_0 s0_1 = some (r1, r2, r3, r4)) :
  Calls Tryd.prog 65 #[.pointer (some ⟨g, 0, none⟩)] w fun e w' => e = .returned (.agg #[.int .i64 r1, .bool r2, .int .i64 r3]) ∧ IsS73 w0 w' g s0_0 r4 ∧ Below w0.heap.size w0 w' ∧ KeepBut w w' g none := by
 have hu78 := Tryd.underlying78
 have HI0 := Aside0.mk hI
 have HK := Aside0.mk (KeepBut.refl w g none)
 have HL := Aside0.mk hB.size
 clear hI
 have HW0 := Aside0.mk hB.size
 have HB := Aside0.mk hB
 clear hB
 have H : ((spec_l1Rd_ins.f k s0_0 s0_1).bind fun bt376 => (if bt376.2.1 = true then (spec_l1Rd_plain.j0 k true s0_0 bt376.2.2.2 bt376.1 bt376.2.1 bt376.2.2.1) else ((spec_l1Rd_once.f s0_0 bt376.2.2.2 6).bind fun bt381 => (spec_l1Rd_plain.j0 k bt381.1 s0_0 bt381.2 bt376.1 bt376.2.1 bt376.2.2.1)))) = some (r1, r2, r3, r4) := h
 clear h
 replace H := Option.bind_eq_some_iff.mp H
 obtain ⟨⟨t376, t377, t378, t379⟩, A20, H⟩ := H
 replace H : (if t377 = true then (spec_l1Rd_plain.j0 k true s0_0 t379 t376 t377 t378) else ((spec_l1Rd_once.f s0_0 t379 6).bind fun bt381 => (spec_l1Rd_plain.j0 k bt381.1 s0_0 bt381.2 t376 t377 t378))) = some (r1, r2, r3, r4) := H
 have A2 := Aside0.mk A20
 clear A20
 have HC3 := Aside0.mk H
 clear H
 go_enter Tryd.func65, Tryd.ntmps65
 go_upto_region 2 with (first | ((with_reducible refine gate_dst (N := 2) rfl ?_); refine box_event ?hg (N := 2) ?hd (cs := #[.int .i64 0, .bool false, .int .i64 0]) (t := 78) ?hr ?_; (case hd => rfl); (case hg => rfl); (case hr => exact q118_); intro gb375 hg w4 hbox hb; have n0_ := Aside0.mk (IsS73.below q52_ hb); have n1_ := Aside0.mk (KeepBut.trans q53_ (KeepBut.of_below hb g none) (.inl rfl)); have n2_ := Aside0.mk (below_step q39_ hb); have n3_ := Aside0.mk (hbox); have n4_ := Aside0.mk ((q25_ : w.heap.size ≤ gb375)); have n5_ := Aside0.mk ((Nat.le_trans HW0.out (q25_ : w.heap.size ≤ gb375) : w0.heap.size ≤ gb375)); have n6_ := Aside0.mk ((q19_ : g ≠ gb375)); have n7_ := Aside0.mk ((q20_ : gb375 ≠ g)); clear HI0; clear HK; clear HB; have HI0 := n0_; have HK := n1_; have HB := n2_; have BK375 := n3_; have GW375 := n4_; have GE375 := n5_; have NB0_375 := n6_; have NB375_0 := n7_; clear n0_ n1_ n2_ n3_ n4_ n5_ n6_ n7_; clear hb hbox hg) | ((with_reducible refine gate_callee (f := 84) rfl ?_); refine goesL_ (some 5) rfl rfl Tryd.func84 (by kernel_rfl) rfl #[.pointer (some ⟨g, 0, none⟩)] rfl q55_ ?_; (with_reducible refine (spec_l1Rd_ins.calls k g s0_0 s0_1 t376 t377 t378 t379 w0 _ ?side1 ?side2 A2.out).mono ?_); (case side1 => repeat (first | (with_reducible first | exact HI0.out | apply IsS73.alloc | apply IsS73.drewN | apply IsS73.drew | apply IsS73.set_1 | refine IsS73.far ?_ NB0_375.out _) | exact HI0.out)); (case side2 => repeat (first | (with_reducible first | exact HB.out | apply below_alloc | apply pw_below_drewN | apply below_drew1 | refine below_set ?_ (IsS73.ge HI0.out) | refine below_set ?_ GE375.out) | exact HB.out)); rintro e w5 ⟨rfl, hi, hb, hk⟩; refine ⟨_, rfl, ?_⟩; have n0_ := Aside0.mk (KeepBut.blk hk (g' := gb375) (o := .cells #[.int .i64 0, .bool false, .int .i64 0] 78 (0, 0)) q70_ NB375_0.out (by simp)); have n1_ := Aside0.mk (KeepBut.trans q35_ hk (.inl rfl)); have n2_ := Aside0.mk (hb); have n3_ := Aside0.mk (hi); clear BK375; clear HK; clear HB; clear HI0; have BK375 := n0_; have HK := n1_; have HB := n2_; have HI0 := n3_; clear n0_ n1_ n2_ n3_; (try clear hb); (try clear hk); (try clear hi)) | ((with_reducible refine gate_dst (N := 3) rfl ?_); refine box_event ?hg (N := 3) ?hd (cs := #[.int .i64 0, .bool false, .int .i64 0]) (t := 78) ?hr ?_; (case hd => rfl); (case hg => rfl); (case hr => exact q118_); intro gb380 hg w6 hbox hb; have n0_ := Aside0.mk (IsS73.below (by repeat (first | (with_reducible first | exact HI0.out | apply IsS73.alloc | apply IsS73.drewN | apply IsS73.drew | apply IsS73.set_1 | refine IsS73.far ?_ NB0_375.out _) | exact HI0.out)) hb); have n1_ := Aside0.mk (blk_below (g := gb375) (o := .cells #[.int .i64 0, .bool false, .int .i64 0] 78 (0, 0)) q70_ hb); have n2_ := Aside0.mk (KeepBut.trans q35_ (KeepBut.of_below hb g none) (.inl rfl)); have n3_ := Aside0.mk (below_step (by repeat (first | (with_reducible first | exact HB.out | apply below_alloc | apply pw_below_drewN | apply below_drew1 | refine below_set ?_ (IsS73.ge HI0.out) | refine below_set ?_ GE375.out) | exact HB.out)) hb); have n4_ := Aside0.mk (hbox); have n5_ := Aside0.mk ((q16_ : w.heap.size ≤ gb380)); have n6_ := Aside0.mk ((Nat.le_trans HW0.out (q16_ : w.heap.size ≤ gb380) : w0.heap.size ≤ gb380)); have n7_ := Aside0.mk ((by rw [hg]; exact Nat.ne_of_lt (blk_lt (g := gb375) (o := .cells #[.int .i64 0, .bool false, .int .i64 0] 78 (0, 0)) q70_) : gb375 ≠ gb380)); have n8_ := Aside0.mk ((by rw [hg]; exact Nat.ne_of_gt (blk_lt (g := gb375) (o := .cells #[.int .i64 0, .bool false, .int .i64 0] 78 (0, 0)) q70_) : gb380 ≠ gb375)); have n9_ := Aside0.mk ((by rw [hg]; exact Nat.ne_of_lt (IsS73.lt (show IsS73 w0 _ g s0_0 t379 from by repeat (first | (with_reducible first | exact HI0.out | apply IsS73.alloc | apply IsS73.drewN | apply IsS73.drew | apply IsS73.set_1 | refine IsS73.far ?_ NB0_375.out _) | exact HI0.out))) : g ≠ gb380)); have n10_ := Aside0.mk ((by rw [hg]; exact Nat.ne_of_gt (IsS73.lt (show IsS73 w0 _ g s0_0 t379 from by repeat (first | (with_reducible first | exact HI0.out | apply IsS73.alloc | apply IsS73.drewN | apply IsS73.drew | apply IsS73.set_1 | refine IsS73.far ?_ NB0_375.out _) | exact HI0.out))) : gb380 ≠ g)); clear HI0; clear BK375; clear HK; clear HB; have HI0 := n0_; have BK375 := n1_; have HK := n2_; have HB := n3_; have BK380 := n4_; have GW380 := n5_; have GE380 := n6_; have NB375_380 := n7_; have NB380_375 := n8_; have NB0_380 := n9_; have NB380_0 := n10_; clear n0_ n1_ n2_ n3_ n4_ n5_ n6_ n7_ n8_ n9_ n10_; clear hb hbox hg; have hnb7 := NB380_375.out; have hnc7 := NB375_380.out; have hnb8 := NB380_0.out; have hnc8 := NB0_380.out; have hcz9_0 : w6.cell? ⟨gb380, 0, none⟩ = some (.int .i64 0) := (blk_cell BK380.out 0).trans rfl; have hcz9_1 : w6.cell? ⟨gb380, 1, none⟩ = some (.bool false) := (blk_cell BK380.out 1).trans rfl; have hcz9_2 : w6.cell? ⟨gb380, 2, none⟩ = some (.int .i64 0) := (blk_cell BK380.out 2).trans rfl; have hfz9_0 := blk_frozen BK380.out 0; have hfz9_1 := blk_frozen BK380.out 1; have hfz9_2 := blk_frozen BK380.out 2))
 (try simp only [Act.put, List.setIfInBounds_toArray, List.set_cons_zero, List.set_cons_succ])
 go_cut [11] (fun v11 wc => ∃ (kq : Nat) (x11_2 : Bool) (x1001_2 : Int), v11 = .bool x11_2 ∧ Aside0 (spec_l1Rd_plain.j0 kq x11_2 s0_0 x1001_2 t376 t377 t378 = some (r1, r2, r3, r4)) ∧ Aside0 (kq ≤ k) ∧ Aside0 (wc.heap[gb375]? = some (.cells #[.int .i64 0, .bool false, .int .i64 0] 78 (0, 0))) ∧ Aside0 (wc.heap[gb380]? = some (.cells #[.int .i64 t376, .bool t377, .int .i64 t378] 78 (0, 0))) ∧ Aside0 (IsS73 w0 wc g s0_0 x1001_2) ∧ Aside0 (KeepBut w wc g none) ∧ Aside0 (Below w0.heap.size w0 wc))
 case first =>
  have H := HC3.out
  clear HC3
  by_cases c10 : t377 = true
  ·subst c10
   replace H : (spec_l1Rd_plain.j0 k true s0_0 t379 t376 true t378) = some (r1, r2, r3, r4) := by rw [if_pos rfl] at H; exact H
   have H' := Aside0.mk H
   clear H
   have hnb11 := NB380_375.out
   have hnc11 := NB375_380.out
   have hnb12 := NB380_0.out
   have hnc12 := NB0_380.out
   have hcz13_0 : w6.cell? ⟨gb380, 0, none⟩ = some (.int .i64 0) := bz_ BK380 0
   have hcz13_1 : w6.cell? ⟨gb380, 1, none⟩ = some (.bool false) := bz_ BK380 1
   have hcz13_2 : w6.cell? ⟨gb380, 2, none⟩ = some (.int .i64 0) := bz_ BK380 2
   have hfz13_0 := blk_frozen BK380.out 0
   have hfz13_1 := blk_frozen BK380.out 1
   have hfz13_2 := blk_frozen BK380.out 2
   go_wp2
   go_meet
   case rel => exact ⟨_, (true), (t379), q74_, H', ⟨q102_⟩, ⟨q5_⟩, ⟨by (with_reducible repeat (first | refine blk_drewN ?_ _ | refine blk_drew ?_ | refine blk_alloc ?_ _)); refine blk_put (cs := #[.int .i64 t376, .bool true, .int .i64 0]) ?_ 2 _ rfl; (with_reducible repeat (first | refine blk_drewN ?_ _ | refine blk_drew ?_ | refine blk_alloc ?_ _)); refine blk_put (cs := #[.int .i64 t376, .bool false, .int .i64 0]) ?_ 1 _ rfl; (with_reducible repeat (first | refine blk_drewN ?_ _ | refine blk_drew ?_ | refine blk_alloc ?_ _)); refine blk_put (cs := #[.int .i64 0, .bool false, .int .i64 0]) ?_ 0 _ rfl; (with_reducible repeat (first | refine blk_drewN ?_ _ | refine blk_drew ?_ | refine blk_alloc ?_ _)); exact BK380.out⟩, ⟨q22_⟩, ⟨q24_⟩, ⟨q18_⟩⟩
  ·replace c10 := Bool.eq_false_iff.mpr c10
   subst c10
   replace H : ((spec_l1Rd_once.f s0_0 t379 6).bind fun bt381 => (spec_l1Rd_plain.j0 k bt381.1 s0_0 bt381.2 t376 false t378)) = some (r1, r2, r3, r4) := by rw [if_neg (show ¬ (false = true) by decide)] at H; exact H
   replace H := Option.bind_eq_some_iff.mp H
   obtain ⟨⟨t381, t382⟩, A140, H⟩ := H
   replace H : (spec_l1Rd_plain.j0 k t381 s0_0 t382 t376 false t378) = some (r1, r2, r3, r4) := H
   have A14 := Aside0.mk A140
   clear A140
   have H' := Aside0.mk H
   clear H
   have hnb15 := NB380_375.out
   have hnc15 := NB375_380.out
   have hnb16 := NB380_0.out
   have hnc16 := NB0_380.out
   have hcz17_0 : w6.cell? ⟨gb380, 0, none⟩ = some (.int .i64 0) := bz_ BK380 0
   have hcz17_1 : w6.cell? ⟨gb380, 1, none⟩ = some (.bool false) := bz_ BK380 1
   have hcz17_2 : w6.cell? ⟨gb380, 2, none⟩ = some (.int .i64 0) := bz_ BK380 2
   have hfz17_0 := blk_frozen BK380.out 0
   have hfz17_1 := blk_frozen BK380.out 1
   have hfz17_2 := blk_frozen BK380.out 2
   go_wp2_with (first | (go_at_call 37; (with_reducible refine (spec_l1Rd_once.calls g s0_0 t379 6 t381 t382 w0 _ ?side1 ?side2 A14.out).mono ?_); (case side1 => exact q110_); (case side2 => exact q108_); rintro e w18 ⟨rfl, hi, hb, hk⟩; have n0_ := Aside0.mk (KeepBut.blk hk (g' := gb375) (o := .cells #[.int .i64 0, .bool false, .int .i64 0] 78 (0, 0)) q5_ NB375_0.out (by simp)); have n1_ := Aside0.mk (KeepBut.blk hk (g' := gb380) (o := .cells #[.int .i64 t376, .bool false, .int .i64 t378] 78 (0, 0)) (by (with_reducible repeat (first | refine blk_drewN ?_ _ | refine blk_drew ?_ | refine blk_alloc ?_ _)); refine blk_put (cs := #[.int .i64 t376, .bool false, .int .i64 0]) ?_ 2 _ rfl; (with_reducible repeat (first | refine blk_drewN ?_ _ | refine blk_drew ?_ | refine blk_alloc ?_ _)); refine blk_put (cs := #[.int .i64 t376, .bool false, .int .i64 0]) ?_ 1 _ rfl; (with_reducible repeat (first | refine blk_drewN ?_ _ | refine blk_drew ?_ | refine blk_alloc ?_ _)); refine blk_put (cs := #[.int .i64 0, .bool false, .int .i64 0]) ?_ 0 _ rfl; (with_reducible repeat (first | refine blk_drewN ?_ _ | refine blk_drew ?_ | refine blk_alloc ?_ _)); exact BK380.out) NB380_0.out (by simp)); have n2_ := Aside0.mk (KeepBut.trans q24_ hk (.inl rfl)); have n3_ := Aside0.mk (hb); have n4_ := Aside0.mk (hi); clear BK375; clear BK380; clear HK; clear HB; clear HI0; have BK375 := n0_; have BK380 := n1_; have HK := n2_; have HB := n3_; have HI0 := n4_; clear n0_ n1_ n2_ n3_ n4_; (try clear hb); (try clear hk); (try clear hi)))
   go_meet
   case rel => exact ⟨_, (t381), (t382), q74_, H', ⟨q102_⟩, ⟨q70_⟩, ⟨q71_⟩, ⟨q22_⟩, ⟨q24_⟩, ⟨q18_⟩⟩
 case rest =>
  clear HC3
  try clear c1
  try clear p2
  try clear c6
  try clear p6
  try clear c7
  try clear c8
  try clear c10
  try clear c11
  try clear c12
  try clear c15
  try clear c16
  try clear hcz13_0 hcz13_1 hcz13_2
  try clear hcz17_0 hcz17_1 hcz17_2
  try clear hcz9_0 hcz9_1 hcz9_2
  try clear hfz13_0 hfz13_1 hfz13_2
  try clear hfz17_0 hfz17_1 hfz17_2
  try clear hfz9_0 hfz9_1 hfz9_2
  obtain ⟨kq, x11_2, x1001_2, rfl, HA, HJ2, BK375, BK380, HI0, HK, HB⟩ := hcut
  cases kq with
  | zero => exact absurd HA.out (by simp [spec_l1Rd_plain.j0])
  | succ kj2 =>
   have H := HA.out
   clear HA
   simp only [spec_l1Rd_plain.j0] at H
   by_cases c19 : x11_2 = true
   ·subst c19
    replace H : (some (t376, t377, t378, x1001_2)) = some (r1, r2, r3, r4) := by rw [if_pos rfl] at H; exact H
    simp only [Option.some.injEq, Prod.mk.injEq] at H
    obtain ⟨rfl, rfl, rfl, rfl⟩ := H
    have hnb20 := NB380_375.out
    have hnc20 := NB375_380.out
    have hnb21 := NB380_0.out
    have hnc21 := NB0_380.out
    have hcz22_0 : wc.cell? ⟨gb380, 0, none⟩ = some (.int .i64 t376) := bz_ BK380 0
    have hcz22_1 : wc.cell? ⟨gb380, 1, none⟩ = some (.bool t377) := bz_ BK380 1
    have hcz22_2 : wc.cell? ⟨gb380, 2, none⟩ = some (.int .i64 t378) := bz_ BK380 2
    have hfz22_0 := blk_frozen BK380.out 0
    have hfz22_1 := blk_frozen BK380.out 1
    have hfz22_2 := blk_frozen BK380.out 2
    have hnb23 := NB375_0.out
    have hnc23 := NB0_375.out
    have hcz24_0 : wc.cell? ⟨gb375, 0, none⟩ = some (.int .i64 0) := bz_ BK375 0
    have hcz24_1 : wc.cell? ⟨gb375, 1, none⟩ = some (.bool false) := bz_ BK375 1
    have hcz24_2 : wc.cell? ⟨gb375, 2, none⟩ = some (.int .i64 0) := bz_ BK375 2
    have hfz24_0 := blk_frozen BK375.out 0
    have hfz24_1 := blk_frozen BK375.out 1
    have hfz24_2 := blk_frozen BK375.out 2
    go_wp2
    refine bodyPost_ret (results_cell_row rfl _ _ gb375 78 #[.int .i64 t376, .bool t377, .int .i64 t378] (0, 0) _ rfl q4_ Tryd.underlying78 rfl (by kernel_rfl)) rfl ?_
    exact ⟨q60_, q22_, q18_, q24_⟩
   ·replace c19 := Bool.eq_false_iff.mpr c19
    subst c19
    replace H : ((spec_l1Rd_below.f s0_0 x1001_2 10).bind fun bt383 => (if bt383.1 = 0 then ((spec_l1Rd_byte.f s0_0 bt383.2).bind fun bt385 => (some (62, false, bt385.1, bt385.2))) else (if bt383.1 = 1 then ((some (([49152, 65408, 256, 128, 40960] : List Int) : List Int)).bind fun y387 => ((spec_l1Rd_below.f s0_0 bt383.2 5).bind fun bt390 => (if 0 ≤ bt390.1 then (if bt390.1 < (y387.length : Int) then (some (33, false, rd y387 bt390.1, bt390.2)) else (none)) else (none)))) else (if bt383.1 = 2 then (some (119, false, 0, bt383.2)) else (if bt383.1 = 3 then (some (224, false, 1, bt383.2)) else (if bt383.1 = 4 then ((some (([49152, 65281, 130, 10, 300, 40961] : List Int) : List Int)).bind fun y393 => ((spec_l1Rd_below.f s0_0 bt383.2 6).bind fun bt396 => (if 0 ≤ bt396.1 then (if bt396.1 < (y393.length : Int) then (some (234, false, rd y393 bt396.1, bt396.2)) else (none)) else (none)))) else (if t376 ≥ 192 then (if t378 > 511 then (some (t376, t377, Int.tmod t378 40, bt383.2)) else (some (t376, t377, t378, bt383.2))) else (some (t376, t377, t378, bt383.2))))))))) = some (r1, r2, r3, r4) := by rw [if_neg (show ¬ (false = true) by decide)] at H; exact H
    replace H := Option.bind_eq_some_iff.mp H
    obtain ⟨⟨t383, t384⟩, A250, H⟩ := H
    replace H : (if t383 = 0 then ((spec_l1Rd_byte.f s0_0 t384).bind fun bt385 => (some (62, false, bt385.1, bt385.2))) else (if t383 = 1 then ((some (([49152, 65408, 256, 128, 40960] : List Int) : List Int)).bind fun y387 => ((spec_l1Rd_below.f s0_0 t384 5).bind fun bt390 => (if 0 ≤ bt390.1 then (if bt390.1 < (y387.length : Int) then (some (33, false, rd y387 bt390.1, bt390.2)) else (none)) else (none)))) else (if t383 = 2 then (some (119, false, 0, t384)) else (if t383 = 3 then (some (224, false, 1, t384)) else (if t383 = 4 then ((some (([49152, 65281, 130, 10, 300, 40961] : List Int) : List Int)).bind fun y393 => ((spec_l1Rd_below.f s0_0 t384 6).bind fun bt396 => (if 0 ≤ bt396.1 then (if bt396.1 < (y393.length : Int) then (some (234, false, rd y393 bt396.1, bt396.2)) else (none)) else (none)))) else (if t376 ≥ 192 then (if t378 > 511 then (some (t376, t377, Int.tmod t378 40, t384)) else (some (t376, t377, t378, t384))) else (some (t376, t377, t378, t384)))))))) = some (r1, r2, r3, r4) := H
    have A25 := Aside0.mk A250
    clear A250
    by_cases c26 : t383 = 0
    ·rw [if_pos c26] at H
     have c26b0 : (t383 == 0) = true := beq_iff_eq.mpr c26
     have c26b1 : (t383 != 0) = false := bne_eq_false_iff_eq.mpr c26
     clear c26
     replace H := Option.bind_eq_some_iff.mp H
     obtain ⟨⟨t385, t386⟩, A270, H⟩ := H
     replace H : (some (62, false, t385, t386)) = some (r1, r2, r3, r4) := H
     have A27 := Aside0.mk A270
     clear A270
     simp only [Option.some.injEq, Prod.mk.injEq] at H
     obtain ⟨rfl, rfl, rfl, rfl⟩ := H
     go_wp2_with (first | ((with_reducible refine gate_callee (f := 40) rfl ?_); refine goesL_ (some 14) rfl rfl Tryd.func40 (by kernel_rfl) rfl #[.pointer (some ⟨g, 0, none⟩), .int .i64 10] rfl q55_ ?_; (with_reducible refine (spec_l1Rd_below.calls g s0_0 x1001_2 10 t383 t384 w0 _ ?side1 ?side2 A25.out).mono ?_); (case side1 => exact q110_); (case side2 => exact q108_); rintro e w28 ⟨rfl, hi, hb, hk⟩; refine ⟨_, rfl, ?_⟩; have n0_ := Aside0.mk (KeepBut.blk hk (g' := gb375) (o := .cells #[.int .i64 0, .bool false, .int .i64 0] 78 (0, 0)) q70_ NB375_0.out (by simp)); have n1_ := Aside0.mk (KeepBut.blk hk (g' := gb380) (o := .cells #[.int .i64 t376, .bool t377, .int .i64 t378] 78 (0, 0)) q71_ NB380_0.out (by simp)); have n2_ := Aside0.mk (KeepBut.trans q24_ hk (.inl rfl)); have n3_ := Aside0.mk (hb); have n4_ := Aside0.mk (hi); clear BK375; clear BK380; clear HK; clear HB; clear HI0; have BK375 := n0_; have BK380 := n1_; have HK := n2_; have HB := n3_; have HI0 := n4_; clear n0_ n1_ n2_ n3_ n4_; (try clear hb); (try clear hk); (try clear hi)) | ((with_reducible refine gate_callee (f := 85) rfl ?_); refine goesL_ (some 18) rfl rfl Tryd.func85 (by kernel_rfl) rfl #[.pointer (some ⟨g, 0, none⟩)] rfl q55_ ?_; (with_reducible refine (spec_l1Rd_byte.calls g s0_0 t384 t385 t386 w0 _ ?side1 ?side2 A27.out).mono ?_); (case side1 => exact q110_); (case side2 => exact q108_); rintro e w29 ⟨rfl, hi, hb, hk⟩; refine ⟨_, rfl, ?_⟩; have n0_ := Aside0.mk (KeepBut.blk hk (g' := gb375) (o := .cells #[.int .i64 0, .bool false, .int .i64 0] 78 (0, 0)) q70_ NB375_0.out (by simp)); have n1_ := Aside0.mk (KeepBut.blk hk (g' := gb380) (o := .cells #[.int .i64 t376, .bool t377, .int .i64 t378] 78 (0, 0)) q71_ NB380_0.out (by simp)); have n2_ := Aside0.mk (KeepBut.trans q24_ hk (.inl rfl)); have n3_ := Aside0.mk (hb); have n4_ := Aside0.mk (hi); clear BK375; clear BK380; clear HK; clear HB; clear HI0; have BK375 := n0_; have BK380 := n1_; have HK := n2_; have HB := n3_; have HI0 := n4_; clear n0_ n1_ n2_ n3_ n4_; (try clear hb); (try clear hk); (try clear hi); have hnb30 := NB375_380.out; have hnc30 := NB380_375.out; have hnb31 := NB375_0.out; have hnc31 := NB0_375.out; have hcz32_0 : w29.cell? ⟨gb375, 0, none⟩ = some (.int .i64 0) := (blk_cell BK375.out 0).trans rfl; have hcz32_1 : w29.cell? ⟨gb375, 1, none⟩ = some (.bool false) := (blk_cell BK375.out 1).trans rfl; have hcz32_2 : w29.cell? ⟨gb375, 2, none⟩ = some (.int .i64 0) := (blk_cell BK375.out 2).trans rfl; have hfz32_0 := blk_frozen BK375.out 0; have hfz32_1 := blk_frozen BK375.out 1; have hfz32_2 := blk_frozen BK375.out 2))
     refine bodyPost_ret (results_cell_row rfl _ _ gb375 78 #[.int .i64 62, .bool false, .int .i64 t385] (0, 0) _ rfl (by (with_reducible repeat (first | refine blk_drewN ?_ _ | refine blk_drew ?_ | refine blk_alloc ?_ _)); refine blk_put (cs := #[.int .i64 62, .bool false, .int .i64 0]) ?_ 2 _ rfl; (with_reducible repeat (first | refine blk_drewN ?_ _ | refine blk_drew ?_ | refine blk_alloc ?_ _)); refine blk_put (cs := #[.int .i64 62, .bool false, .int .i64 0]) ?_ 1 _ rfl; (with_reducible repeat (first | refine blk_drewN ?_ _ | refine blk_drew ?_ | refine blk_alloc ?_ _)); refine blk_put (cs := #[.int .i64 0, .bool false, .int .i64 0]) ?_ 0 _ rfl; (with_reducible repeat (first | refine blk_drewN ?_ _ | refine blk_drew ?_ | refine blk_alloc ?_ _)); exact BK375.out) Tryd.underlying78 rfl (by kernel_rfl)) rfl ?_
     exact ⟨q60_, q22_, q18_, q24_⟩
    ·rw [if_neg c26] at H
     have c26b0 : (t383 == 0) = false := beq_eq_false_iff_ne.mpr c26
     have c26b1 : (t383 != 0) = true := bne_iff_ne.mpr c26
     by_cases c33 : t383 = 1
     ·rw [if_pos c33] at H
      have c33b0 : (t383 == 1) = true := beq_iff_eq.mpr c33
      have c33b1 : (t383 != 1) = false := bne_eq_false_iff_eq.mpr c33
      clear c33
      obtain ⟨y387, hy387⟩ : ∃ y_ : List Int, y_ = (([49152, 65408, 256, 128, 40960] : List Int)) := ⟨_, rfl⟩
      replace H : ((spec_l1Rd_below.f s0_0 t384 5).bind fun bt390 => (if 0 ≤ bt390.1 then (if bt390.1 < (y387.length : Int) then (some (33, false, rd y387 bt390.1, bt390.2)) else (none)) else (none))) = some (r1, r2, r3, r4) := by first | (rw [hy387]; with_reducible exact H) | (have H2_ := (Option.bind_some _ _).symm.trans H; rw [hy387]; with_reducible exact H2_) | (have H2_ := (Option.bind_some _ _).symm.trans H; with_reducible exact H2_) | with_reducible exact H | (rw [hy387]; exact H) | exact H
      have Ny387 := Aside0.mk hy387
      clear hy387
      replace H := Option.bind_eq_some_iff.mp H
      obtain ⟨⟨t390, t391⟩, A340, H⟩ := H
      replace H : (if 0 ≤ t390 then (if t390 < (y387.length : Int) then (some (33, false, rd y387 t390, t391)) else (none)) else (none)) = some (r1, r2, r3, r4) := H
      have A34 := Aside0.mk A340
      clear A340
      by_cases c35 : 0 ≤ t390
      ·rw [if_pos c35] at H
       have c35b0 : decide (0 ≤ t390) = true := decide_eq_true c35
       clear c35
       by_cases c36 : t390 < (y387.length : Int)
       ·rw [if_pos c36] at H
        have c36b0 : decide (t390 < (y387.length : Int)) = true := decide_eq_true c36
        clear c36
        simp only [Option.some.injEq, Prod.mk.injEq] at H
        obtain ⟨rfl, rfl, rfl, rfl⟩ := H
        go_wp2_with (first | ((with_reducible refine gate_callee (f := 40) rfl ?_); refine goesL_ (some 14) rfl rfl Tryd.func40 (by kernel_rfl) rfl #[.pointer (some ⟨g, 0, none⟩), .int .i64 10] rfl q55_ ?_; (with_reducible refine (spec_l1Rd_below.calls g s0_0 x1001_2 10 t383 t384 w0 _ ?side1 ?side2 A25.out).mono ?_); (case side1 => exact q110_); (case side2 => exact q108_); rintro e w37 ⟨rfl, hi, hb, hk⟩; refine ⟨_, rfl, ?_⟩; have n0_ := Aside0.mk (KeepBut.blk hk (g' := gb375) (o := .cells #[.int .i64 0, .bool false, .int .i64 0] 78 (0, 0)) q70_ NB375_0.out (by simp)); have n1_ := Aside0.mk (KeepBut.blk hk (g' := gb380) (o := .cells #[.int .i64 t376, .bool t377, .int .i64 t378] 78 (0, 0)) q71_ NB380_0.out (by simp)); have n2_ := Aside0.mk (KeepBut.trans q24_ hk (.inl rfl)); have n3_ := Aside0.mk (hb); have n4_ := Aside0.mk (hi); clear BK375; clear BK380; clear HK; clear HB; clear HI0; have BK375 := n0_; have BK380 := n1_; have HK := n2_; have HB := n3_; have HI0 := n4_; clear n0_ n1_ n2_ n3_ n4_; (try clear hb); (try clear hk); (try clear hi)) | ((with_reducible refine gate_dst (N := 22) rfl ?_); refine Kd.R_lit (Kd.int .i64) _ 2 ?hg (N := 22) ?hd (xs := ([49152, 65408, 256, 128, 40960] : List Int)) (inner := [.int .i64 49152, .int .i64 65408, .int .i64 256, .int .i64 128, .int .i64 40960]) (ok := fun _ => True) (okp := fun _ => True) ?hr ?hp (fun _ hk => hk) trivial (Below.refl _ _) (Nat.le_refl _) (by simp) ?_; (case hd => rfl); (case hg => rfl); (case hr => exact q118_); (case hp => exact (Reps.one (show Kd.M (Kd.int .i64) _ _ _ 49152 [.int .i64 49152] from rfl) (Reps.one (show Kd.M (Kd.int .i64) _ _ _ 65408 [.int .i64 65408] from rfl) (Reps.one (show Kd.M (Kd.int .i64) _ _ _ 256 [.int .i64 256] from rfl) (Reps.one (show Kd.M (Kd.int .i64) _ _ _ 128 [.int .i64 128] from rfl) (Reps.one (show Kd.M (Kd.int .i64) _ _ _ 40960 [.int .i64 40960] from rfl) (Reps.none _ _))))))); intro v388 w38 ho39 hb hg_ hnew_; clear hg_ hnew_; (first | rw [← Ny387.out] at ho39 | (simp only [Int.reduceToNat] at ho39; rw [← Ny387.out] at ho39)); have n0_ := Aside0.mk (Kd.R_lower ho39 (keep_size (w := w) (g := g) (row := none) q24_)); have n1_ := Aside0.mk (blk_below (g := gb375) (o := .cells #[.int .i64 0, .bool false, .int .i64 0] 78 (0, 0)) q70_ hb); have n2_ := Aside0.mk (blk_below (g := gb380) (o := .cells #[.int .i64 t376, .bool t377, .int .i64 t378] 78 (0, 0)) q71_ hb); have n3_ := Aside0.mk (IsS73.below q22_ hb); have n4_ := Aside0.mk (KeepBut.trans q24_ (KeepBut.of_below hb g none) (.inl rfl)); have n5_ := Aside0.mk (below_step q18_ hb); clear BK375; clear BK380; clear HI0; clear HK; clear HB; have HO389 := n0_; have BK375 := n1_; have BK380 := n2_; have HI0 := n3_; have HK := n4_; have HB := n5_; clear n0_ n1_ n2_ n3_ n4_ n5_; clear hb ho39) | ((with_reducible refine gate_callee (f := 40) rfl ?_); refine goesL_ (some 24) rfl rfl Tryd.func40 (by kernel_rfl) rfl #[.pointer (some ⟨g, 0, none⟩), .int .i64 5] rfl q55_ ?_; (with_reducible refine (spec_l1Rd_below.calls g s0_0 t384 5 t390 t391 w0 _ ?side1 ?side2 A34.out).mono ?_); (case side1 => exact q110_); (case side2 => exact q108_); rintro e w40 ⟨rfl, hi, hb, hk⟩; refine ⟨_, rfl, ?_⟩; have n0_ := Aside0.mk (KeepBut.blk hk (g' := gb375) (o := .cells #[.int .i64 0, .bool false, .int .i64 0] 78 (0, 0)) q70_ NB375_0.out (by simp)); have n1_ := Aside0.mk (KeepBut.blk hk (g' := gb380) (o := .cells #[.int .i64 t376, .bool t377, .int .i64 t378] 78 (0, 0)) q71_ NB380_0.out (by simp)); have n2_ := Aside0.mk (Kd.R_mono (Kd.R_keep (IsS73.apart (show IsS73 w0 _ g s0_0 t384 from by repeat (first | (with_reducible first | exact HI0.out | apply IsS73.alloc | apply IsS73.drewN | apply IsS73.drew | apply IsS73.set_1 | refine IsS73.far ?_ NB0_375.out _ | refine IsS73.far ?_ NB0_380.out _) | exact HI0.out)) (by (with_reducible repeat (first | apply Kd.R_alloc | apply Kd.R_drewN | apply Kd.R_drew)); exact HO389.out) (by decide)) hk (fun _ h => h.2)) (fun _ h => h.1)); have n3_ := Aside0.mk (KeepBut.trans q24_ hk (.inl rfl)); have n4_ := Aside0.mk (hb); have n5_ := Aside0.mk (hi); clear BK375; clear BK380; clear HO389; clear HK; clear HB; clear HI0; have BK375 := n0_; have BK380 := n1_; have HO389 := n2_; have HK := n3_; have HB := n4_; have HI0 := n5_; clear n0_ n1_ n2_ n3_ n4_ n5_; (try clear hb); (try clear hk); (try clear hi); obtain ⟨Ao41, co41, eo41⟩ := Kd.R_slice HO389.out; subst eo41; have p392 : 0 ≤ (t390 : Int) := of_decide_eq_true q87_; have q392 : t390 < (y387.length : Int) := of_decide_eq_true q87_; obtain ⟨ad392, e392, hx392_0⟩ := Kd.at_int (Kd.R_reads' HO389.out).2.2 t390 p392 q392; cases e392; replace p392 := eq_true p392; replace q392 := eq_true q392; have hnb42 := NB375_380.out; have hnc42 := NB380_375.out; have hnb43 := NB375_0.out; have hnc43 := NB0_375.out; have hcz44_0 : w40.cell? ⟨gb375, 0, none⟩ = some (.int .i64 0) := (blk_cell BK375.out 0).trans rfl; have hcz44_1 : w40.cell? ⟨gb375, 1, none⟩ = some (.bool false) := (blk_cell BK375.out 1).trans rfl; have hcz44_2 : w40.cell? ⟨gb375, 2, none⟩ = some (.int .i64 0) := (blk_cell BK375.out 2).trans rfl; have hfz44_0 := blk_frozen BK375.out 0; have hfz44_1 := blk_frozen BK375.out 1; have hfz44_2 := blk_frozen BK375.out 2))
        refine bodyPost_ret (results_cell_row rfl _ _ gb375 78 #[.int .i64 33, .bool false, .int .i64 (rd y387 t390)] (0, 0) _ rfl (by (with_reducible repeat (first | refine blk_drewN ?_ _ | refine blk_drew ?_ | refine blk_alloc ?_ _)); refine blk_put (cs := #[.int .i64 33, .bool false, .int .i64 0]) ?_ 2 _ rfl; (with_reducible repeat (first | refine blk_drewN ?_ _ | refine blk_drew ?_ | refine blk_alloc ?_ _)); refine blk_put (cs := #[.int .i64 33, .bool false, .int .i64 0]) ?_ 1 _ rfl; (with_reducible repeat (first | refine blk_drewN ?_ _ | refine blk_drew ?_ | refine blk_alloc ?_ _)); refine blk_put (cs := #[.int .i64 0, .bool false, .int .i64 0]) ?_ 0 _ rfl; (with_reducible repeat (first | refine blk_drewN ?_ _ | refine blk_drew ?_ | refine blk_alloc ?_ _)); exact BK375.out) Tryd.underlying78 rfl (by kernel_rfl)) rfl ?_
        exact ⟨q60_, q22_, q18_, q24_⟩
       ·rw [if_neg c36] at H
        exact absurd H (by simp)
      ·rw [if_neg c35] at H
       exact absurd H (by simp)
     ·rw [if_neg c33] at H
      have c33b0 : (t383 == 1) = false := beq_eq_false_iff_ne.mpr c33
      have c33b1 : (t383 != 1) = true := bne_iff_ne.mpr c33
      by_cases c45 : t383 = 2
      ·rw [if_pos c45] at H
       have c45b0 : (t383 == 2) = true := beq_iff_eq.mpr c45
       have c45b1 : (t383 != 2) = false := bne_eq_false_iff_eq.mpr c45
       clear c45
       simp only [Option.some.injEq, Prod.mk.injEq] at H
       obtain ⟨rfl, rfl, rfl, rfl⟩ := H
       go_wp2_with (first | ((with_reducible refine gate_callee (f := 40) rfl ?_); refine goesL_ (some 14) rfl rfl Tryd.func40 (by kernel_rfl) rfl #[.pointer (some ⟨g, 0, none⟩), .int .i64 10] rfl q55_ ?_; (with_reducible refine (spec_l1Rd_below.calls g s0_0 x1001_2 10 t383 t384 w0 _ ?side1 ?side2 A25.out).mono ?_); (case side1 => exact q110_); (case side2 => exact q108_); rintro e w46 ⟨rfl, hi, hb, hk⟩; refine ⟨_, rfl, ?_⟩; have n0_ := Aside0.mk (KeepBut.blk hk (g' := gb375) (o := .cells #[.int .i64 0, .bool false, .int .i64 0] 78 (0, 0)) q70_ NB375_0.out (by simp)); have n1_ := Aside0.mk (KeepBut.blk hk (g' := gb380) (o := .cells #[.int .i64 t376, .bool t377, .int .i64 t378] 78 (0, 0)) q71_ NB380_0.out (by simp)); have n2_ := Aside0.mk (KeepBut.trans q24_ hk (.inl rfl)); have n3_ := Aside0.mk (hb); have n4_ := Aside0.mk (hi); clear BK375; clear BK380; clear HK; clear HB; clear HI0; have BK375 := n0_; have BK380 := n1_; have HK := n2_; have HB := n3_; have HI0 := n4_; clear n0_ n1_ n2_ n3_ n4_; (try clear hb); (try clear hk); (try clear hi); have hnb47 := NB375_380.out; have hnc47 := NB380_375.out; have hnb48 := NB375_0.out; have hnc48 := NB0_375.out; have hcz49_0 : w46.cell? ⟨gb375, 0, none⟩ = some (.int .i64 0) := (blk_cell BK375.out 0).trans rfl; have hcz49_1 : w46.cell? ⟨gb375, 1, none⟩ = some (.bool false) := (blk_cell BK375.out 1).trans rfl; have hcz49_2 : w46.cell? ⟨gb375, 2, none⟩ = some (.int .i64 0) := (blk_cell BK375.out 2).trans rfl; have hfz49_0 := blk_frozen BK375.out 0; have hfz49_1 := blk_frozen BK375.out 1; have hfz49_2 := blk_frozen BK375.out 2))
       refine bodyPost_ret (results_cell_row rfl _ _ gb375 78 #[.int .i64 119, .bool false, .int .i64 0] (0, 0) _ rfl (by (with_reducible repeat (first | refine blk_drewN ?_ _ | refine blk_drew ?_ | refine blk_alloc ?_ _)); refine blk_put (cs := #[.int .i64 119, .bool false, .int .i64 0]) ?_ 2 _ rfl; (with_reducible repeat (first | refine blk_drewN ?_ _ | refine blk_drew ?_ | refine blk_alloc ?_ _)); refine blk_put (cs := #[.int .i64 119, .bool false, .int .i64 0]) ?_ 1 _ rfl; (with_reducible repeat (first | refine blk_drewN ?_ _ | refine blk_drew ?_ | refine blk_alloc ?_ _)); refine blk_put (cs := #[.int .i64 0, .bool false, .int .i64 0]) ?_ 0 _ rfl; (with_reducible repeat (first | refine blk_drewN ?_ _ | refine blk_drew ?_ | refine blk_alloc ?_ _)); exact BK375.out) Tryd.underlying78 rfl (by kernel_rfl)) rfl ?_
       exact ⟨q60_, q22_, q18_, q24_⟩
      ·rw [if_neg c45] at H
       have c45b0 : (t383 == 2) = false := beq_eq_false_iff_ne.mpr c45
       have c45b1 : (t383 != 2) = true := bne_iff_ne.mpr c45
       by_cases c50 : t383 = 3
       ·rw [if_pos c50] at H
        have c50b0 : (t383 == 3) = true := beq_iff_eq.mpr c50
        have c50b1 : (t383 != 3) = false := bne_eq_false_iff_eq.mpr c50
        clear c50
        simp only [Option.some.injEq, Prod.mk.injEq] at H
        obtain ⟨rfl, rfl, rfl, rfl⟩ := H
        go_wp2_with (first | ((with_reducible refine gate_callee (f := 40) rfl ?_); refine goesL_ (some 14) rfl rfl Tryd.func40 (by kernel_rfl) rfl #[.pointer (some ⟨g, 0, none⟩), .int .i64 10] rfl q55_ ?_; (with_reducible refine (spec_l1Rd_below.calls g s0_0 x1001_2 10 t383 t384 w0 _ ?side1 ?side2 A25.out).mono ?_); (case side1 => exact q110_); (case side2 => exact q108_); rintro e w51 ⟨rfl, hi, hb, hk⟩; refine ⟨_, rfl, ?_⟩; have n0_ := Aside0.mk (KeepBut.blk hk (g' := gb375) (o := .cells #[.int .i64 0, .bool false, .int .i64 0] 78 (0, 0)) q70_ NB375_0.out (by simp)); have n1_ := Aside0.mk (KeepBut.blk hk (g' := gb380) (o := .cells #[.int .i64 t376, .bool t377, .int .i64 t378] 78 (0, 0)) q71_ NB380_0.out (by simp)); have n2_ := Aside0.mk (KeepBut.trans q24_ hk (.inl rfl)); have n3_ := Aside0.mk (hb); have n4_ := Aside0.mk (hi); clear BK375; clear BK380; clear HK; clear HB; clear HI0; have BK375 := n0_; have BK380 := n1_; have HK := n2_; have HB := n3_; have HI0 := n4_; clear n0_ n1_ n2_ n3_ n4_; (try clear hb); (try clear hk); (try clear hi); have hnb52 := NB375_380.out; have hnc52 := NB380_375.out; have hnb53 := NB375_0.out; have hnc53 := NB0_375.out; have hcz54_0 : w51.cell? ⟨gb375, 0, none⟩ = some (.int .i64 0) := (blk_cell BK375.out 0).trans rfl; have hcz54_1 : w51.cell? ⟨gb375, 1, none⟩ = some (.bool false) := (blk_cell BK375.out 1).trans rfl; have hcz54_2 : w51.cell? ⟨gb375, 2, none⟩ = some (.int .i64 0) := (blk_cell BK375.out 2).trans rfl; have hfz54_0 := blk_frozen BK375.out 0; have hfz54_1 := blk_frozen BK375.out 1; have hfz54_2 := blk_frozen BK375.out 2))
        refine bodyPost_ret (results_cell_row rfl _ _ gb375 78 #[.int .i64 224, .bool false, .int .i64 1] (0, 0) _ rfl (by (with_reducible repeat (first | refine blk_drewN ?_ _ | refine blk_drew ?_ | refine blk_alloc ?_ _)); refine blk_put (cs := #[.int .i64 224, .bool false, .int .i64 0]) ?_ 2 _ rfl; (with_reducible repeat (first | refine blk_drewN ?_ _ | refine blk_drew ?_ | refine blk_alloc ?_ _)); refine blk_put (cs := #[.int .i64 224, .bool false, .int .i64 0]) ?_ 1 _ rfl; (with_reducible repeat (first | refine blk_drewN ?_ _ | refine blk_drew ?_ | refine blk_alloc ?_ _)); refine blk_put (cs := #[.int .i64 0, .bool false, .int .i64 0]) ?_ 0 _ rfl; (with_reducible repeat (first | refine blk_drewN ?_ _ | refine blk_drew ?_ | refine blk_alloc ?_ _)); exact BK375.out) Tryd.underlying78 rfl (by kernel_rfl)) rfl ?_
        exact ⟨q60_, q22_, q18_, q24_⟩
       ·rw [if_neg c50] at H
        have c50b0 : (t383 == 3) = false := beq_eq_false_iff_ne.mpr c50
        have c50b1 : (t383 != 3) = true := bne_iff_ne.mpr c50
        by_cases c55 : t383 = 4
        ·rw [if_pos c55] at H
         have c55b0 : (t383 == 4) = true := beq_iff_eq.mpr c55
         have c55b1 : (t383 != 4) = false := bne_eq_false_iff_eq.mpr c55
         clear c55
         obtain ⟨y393, hy393⟩ : ∃ y_ : List Int, y_ = (([49152, 65281, 130, 10, 300, 40961] : List Int)) := ⟨_, rfl⟩
         replace H : ((spec_l1Rd_below.f s0_0 t384 6).bind fun bt396 => (if 0 ≤ bt396.1 then (if bt396.1 < (y393.length : Int) then (some (234, false, rd y393 bt396.1, bt396.2)) else (none)) else (none))) = some (r1, r2, r3, r4) := by first | (rw [hy393]; with_reducible exact H) | (have H2_ := (Option.bind_some _ _).symm.trans H; rw [hy393]; with_reducible exact H2_) | (have H2_ := (Option.bind_some _ _).symm.trans H; with_reducible exact H2_) | with_reducible exact H | (rw [hy393]; exact H) | exact H
         have Ny393 := Aside0.mk hy393
         clear hy393
         replace H := Option.bind_eq_some_iff.mp H
         obtain ⟨⟨t396, t397⟩, A560, H⟩ := H
         replace H : (if 0 ≤ t396 then (if t396 < (y393.length : Int) then (some (234, false, rd y393 t396, t397)) else (none)) else (none)) = some (r1, r2, r3, r4) := H
         have A56 := Aside0.mk A560
         clear A560
         by_cases c57 : 0 ≤ t396
         ·rw [if_pos c57] at H
          have c57b0 : decide (0 ≤ t396) = true := decide_eq_true c57
          clear c57
          by_cases c58 : t396 < (y393.length : Int)
          ·rw [if_pos c58] at H
           have c58b0 : decide (t396 < (y393.length : Int)) = true := decide_eq_true c58
           clear c58
           simp only [Option.some.injEq, Prod.mk.injEq] at H
           obtain ⟨rfl, rfl, rfl, rfl⟩ := H
           go_wp2_with (first | ((with_reducible refine gate_callee (f := 40) rfl ?_); refine goesL_ (some 14) rfl rfl Tryd.func40 (by kernel_rfl) rfl #[.pointer (some ⟨g, 0, none⟩), .int .i64 10] rfl q55_ ?_; (with_reducible refine (spec_l1Rd_below.calls g s0_0 x1001_2 10 t383 t384 w0 _ ?side1 ?side2 A25.out).mono ?_); (case side1 => exact q110_); (case side2 => exact q108_); rintro e w59 ⟨rfl, hi, hb, hk⟩; refine ⟨_, rfl, ?_⟩; have n0_ := Aside0.mk (KeepBut.blk hk (g' := gb375) (o := .cells #[.int .i64 0, .bool false, .int .i64 0] 78 (0, 0)) q70_ NB375_0.out (by simp)); have n1_ := Aside0.mk (KeepBut.blk hk (g' := gb380) (o := .cells #[.int .i64 t376, .bool t377, .int .i64 t378] 78 (0, 0)) q71_ NB380_0.out (by simp)); have n2_ := Aside0.mk (KeepBut.trans q24_ hk (.inl rfl)); have n3_ := Aside0.mk (hb); have n4_ := Aside0.mk (hi); clear BK375; clear BK380; clear HK; clear HB; clear HI0; have BK375 := n0_; have BK380 := n1_; have HK := n2_; have HB := n3_; have HI0 := n4_; clear n0_ n1_ n2_ n3_ n4_; (try clear hb); (try clear hk); (try clear hi)) | ((with_reducible refine gate_dst (N := 36) rfl ?_); refine Kd.R_lit (Kd.int .i64) _ 2 ?hg (N := 36) ?hd (xs := ([49152, 65281, 130, 10, 300, 40961] : List Int)) (inner := [.int .i64 49152, .int .i64 65281, .int .i64 130, .int .i64 10, .int .i64 300, .int .i64 40961]) (ok := fun _ => True) (okp := fun _ => True) ?hr ?hp (fun _ hk => hk) trivial (Below.refl _ _) (Nat.le_refl _) (by simp) ?_; (case hd => rfl); (case hg => rfl); (case hr => exact q118_); (case hp => exact (Reps.one (show Kd.M (Kd.int .i64) _ _ _ 49152 [.int .i64 49152] from rfl) (Reps.one (show Kd.M (Kd.int .i64) _ _ _ 65281 [.int .i64 65281] from rfl) (Reps.one (show Kd.M (Kd.int .i64) _ _ _ 130 [.int .i64 130] from rfl) (Reps.one (show Kd.M (Kd.int .i64) _ _ _ 10 [.int .i64 10] from rfl) (Reps.one (show Kd.M (Kd.int .i64) _ _ _ 300 [.int .i64 300] from rfl) (Reps.one (show Kd.M (Kd.int .i64) _ _ _ 40961 [.int .i64 40961] from rfl) (Reps.none _ _)))))))); intro v394 w60 ho61 hb hg_ hnew_; clear hg_ hnew_; (first | rw [← Ny393.out] at ho61 | (simp only [Int.reduceToNat] at ho61; rw [← Ny393.out] at ho61)); have n0_ := Aside0.mk (Kd.R_lower ho61 (keep_size (w := w) (g := g) (row := none) q24_)); have n1_ := Aside0.mk (blk_below (g := gb375) (o := .cells #[.int .i64 0, .bool false, .int .i64 0] 78 (0, 0)) q70_ hb); have n2_ := Aside0.mk (blk_below (g := gb380) (o := .cells #[.int .i64 t376, .bool t377, .int .i64 t378] 78 (0, 0)) q71_ hb); have n3_ := Aside0.mk (IsS73.below q22_ hb); have n4_ := Aside0.mk (KeepBut.trans q24_ (KeepBut.of_below hb g none) (.inl rfl)); have n5_ := Aside0.mk (below_step q18_ hb); clear BK375; clear BK380; clear HI0; clear HK; clear HB; have HO395 := n0_; have BK375 := n1_; have BK380 := n2_; have HI0 := n3_; have HK := n4_; have HB := n5_; clear n0_ n1_ n2_ n3_ n4_ n5_; clear hb ho61) | ((with_reducible refine gate_callee (f := 40) rfl ?_); refine goesL_ (some 38) rfl rfl Tryd.func40 (by kernel_rfl) rfl #[.pointer (some ⟨g, 0, none⟩), .int .i64 6] rfl q55_ ?_; (with_reducible refine (spec_l1Rd_below.calls g s0_0 t384 6 t396 t397 w0 _ ?side1 ?side2 A56.out).mono ?_); (case side1 => exact q110_); (case side2 => exact q108_); rintro e w62 ⟨rfl, hi, hb, hk⟩; refine ⟨_, rfl, ?_⟩; have n0_ := Aside0.mk (KeepBut.blk hk (g' := gb375) (o := .cells #[.int .i64 0, .bool false, .int .i64 0] 78 (0, 0)) q70_ NB375_0.out (by simp)); have n1_ := Aside0.mk (KeepBut.blk hk (g' := gb380) (o := .cells #[.int .i64 t376, .bool t377, .int .i64 t378] 78 (0, 0)) q71_ NB380_0.out (by simp)); have n2_ := Aside0.mk (Kd.R_mono (Kd.R_keep (IsS73.apart (show IsS73 w0 _ g s0_0 t384 from by repeat (first | (with_reducible first | exact HI0.out | apply IsS73.alloc | apply IsS73.drewN | apply IsS73.drew | apply IsS73.set_1 | refine IsS73.far ?_ NB0_375.out _ | refine IsS73.far ?_ NB0_380.out _) | exact HI0.out)) (by (with_reducible repeat (first | apply Kd.R_alloc | apply Kd.R_drewN | apply Kd.R_drew)); exact HO395.out) (by decide)) hk (fun _ h => h.2)) (fun _ h => h.1)); have n3_ := Aside0.mk (KeepBut.trans q24_ hk (.inl rfl)); have n4_ := Aside0.mk (hb); have n5_ := Aside0.mk (hi); clear BK375; clear BK380; clear HO395; clear HK; clear HB; clear HI0; have BK375 := n0_; have BK380 := n1_; have HO395 := n2_; have HK := n3_; have HB := n4_; have HI0 := n5_; clear n0_ n1_ n2_ n3_ n4_ n5_; (try clear hb); (try clear hk); (try clear hi); obtain ⟨Ao63, co63, eo63⟩ := Kd.R_slice HO395.out; subst eo63; have p398 : 0 ≤ (t396 : Int) := of_decide_eq_true q87_; have q398 : t396 < (y393.length : Int) := of_decide_eq_true q87_; obtain ⟨ad398, e398, hx398_0⟩ := Kd.at_int (Kd.R_reads' HO395.out).2.2 t396 p398 q398; cases e398; replace p398 := eq_true p398; replace q398 := eq_true q398; have hnb64 := NB375_380.out; have hnc64 := NB380_375.out; have hnb65 := NB375_0.out; have hnc65 := NB0_375.out; have hcz66_0 : w62.cell? ⟨gb375, 0, none⟩ = some (.int .i64 0) := (blk_cell BK375.out 0).trans rfl; have hcz66_1 : w62.cell? ⟨gb375, 1, none⟩ = some (.bool false) := (blk_cell BK375.out 1).trans rfl; have hcz66_2 : w62.cell? ⟨gb375, 2, none⟩ = some (.int .i64 0) := (blk_cell BK375.out 2).trans rfl; have hfz66_0 := blk_frozen BK375.out 0; have hfz66_1 := blk_frozen BK375.out 1; have hfz66_2 := blk_frozen BK375.out 2))
           refine bodyPost_ret (results_cell_row rfl _ _ gb375 78 #[.int .i64 234, .bool false, .int .i64 (rd y393 t396)] (0, 0) _ rfl (by (with_reducible repeat (first | refine blk_drewN ?_ _ | refine blk_drew ?_ | refine blk_alloc ?_ _)); refine blk_put (cs := #[.int .i64 234, .bool false, .int .i64 0]) ?_ 2 _ rfl; (with_reducible repeat (first | refine blk_drewN ?_ _ | refine blk_drew ?_ | refine blk_alloc ?_ _)); refine blk_put (cs := #[.int .i64 234, .bool false, .int .i64 0]) ?_ 1 _ rfl; (with_reducible repeat (first | refine blk_drewN ?_ _ | refine blk_drew ?_ | refine blk_alloc ?_ _)); refine blk_put (cs := #[.int .i64 0, .bool false, .int .i64 0]) ?_ 0 _ rfl; (with_reducible repeat (first | refine blk_drewN ?_ _ | refine blk_drew ?_ | refine blk_alloc ?_ _)); exact BK375.out) Tryd.underlying78 rfl (by kernel_rfl)) rfl ?_
           exact ⟨q60_, q22_, q18_, q24_⟩
          ·rw [if_neg c58] at H
           exact absurd H (by simp)
         ·rw [if_neg c57] at H
          exact absurd H (by simp)
        ·rw [if_neg c55] at H
         have c55b0 : (t383 == 4) = false := beq_eq_false_iff_ne.mpr c55
         have c55b1 : (t383 != 4) = true := bne_iff_ne.mpr c55
         by_cases c67 : t376 ≥ 192
         ·rw [if_pos c67] at H
          have c67b0 : decide (192 ≤ t376) = true := decide_eq_true c67
          clear c67
          by_cases c68 : t378 > 511
          ·rw [if_pos c68] at H
           have c68b0 : decide (511 < t378) = true := decide_eq_true c68
           clear c68
           simp only [Option.some.injEq, Prod.mk.injEq] at H
           obtain ⟨rfl, rfl, rfl, rfl⟩ := H
           go_wp2_with (first | ((with_reducible refine gate_callee (f := 40) rfl ?_); refine goesL_ (some 14) rfl rfl Tryd.func40 (by kernel_rfl) rfl #[.pointer (some ⟨g, 0, none⟩), .int .i64 10] rfl q55_ ?_; (with_reducible refine (spec_l1Rd_below.calls g s0_0 x1001_2 10 t383 t384 w0 _ ?side1 ?side2 A25.out).mono ?_); (case side1 => exact q110_); (case side2 => exact q108_); rintro e w69 ⟨rfl, hi, hb, hk⟩; refine ⟨_, rfl, ?_⟩; have n0_ := Aside0.mk (KeepBut.blk hk (g' := gb375) (o := .cells #[.int .i64 0, .bool false, .int .i64 0] 78 (0, 0)) q70_ NB375_0.out (by simp)); have n1_ := Aside0.mk (KeepBut.blk hk (g' := gb380) (o := .cells #[.int .i64 t376, .bool t377, .int .i64 t378] 78 (0, 0)) q71_ NB380_0.out (by simp)); have n2_ := Aside0.mk (KeepBut.trans q24_ hk (.inl rfl)); have n3_ := Aside0.mk (hb); have n4_ := Aside0.mk (hi); clear BK375; clear BK380; clear HK; clear HB; clear HI0; have BK375 := n0_; have BK380 := n1_; have HK := n2_; have HB := n3_; have HI0 := n4_; clear n0_ n1_ n2_ n3_ n4_; (try clear hb); (try clear hk); (try clear hi); have hnb70 := NB380_375.out; have hnc70 := NB375_380.out; have hnb71 := NB380_0.out; have hnc71 := NB0_380.out; have hcz72_0 : w69.cell? ⟨gb380, 0, none⟩ = some (.int .i64 t376) := (blk_cell BK380.out 0).trans rfl; have hcz72_1 : w69.cell? ⟨gb380, 1, none⟩ = some (.bool t377) := (blk_cell BK380.out 1).trans rfl; have hcz72_2 : w69.cell? ⟨gb380, 2, none⟩ = some (.int .i64 t378) := (blk_cell BK380.out 2).trans rfl; have hfz72_0 := blk_frozen BK380.out 0; have hfz72_1 := blk_frozen BK380.out 1; have hfz72_2 := blk_frozen BK380.out 2; have hnb73 := NB375_0.out; have hnc73 := NB0_375.out; have hcz74_0 : w69.cell? ⟨gb375, 0, none⟩ = some (.int .i64 0) := (blk_cell BK375.out 0).trans rfl; have hcz74_1 : w69.cell? ⟨gb375, 1, none⟩ = some (.bool false) := (blk_cell BK375.out 1).trans rfl; have hcz74_2 : w69.cell? ⟨gb375, 2, none⟩ = some (.int .i64 0) := (blk_cell BK375.out 2).trans rfl; have hfz74_0 := blk_frozen BK375.out 0; have hfz74_1 := blk_frozen BK375.out 1; have hfz74_2 := blk_frozen BK375.out 2))
           refine bodyPost_ret (results_cell_row rfl _ _ gb375 78 #[.int .i64 t376, .bool t377, .int .i64 (Int.tmod t378 40)] (0, 0) _ rfl (by (with_reducible repeat (first | refine blk_drewN ?_ _ | refine blk_drew ?_ | refine blk_alloc ?_ _)); refine blk_put (cs := #[.int .i64 t376, .bool t377, .int .i64 0]) ?_ 2 _ rfl; (with_reducible repeat (first | refine blk_drewN ?_ _ | refine blk_drew ?_ | refine blk_alloc ?_ _)); refine blk_put (cs := #[.int .i64 t376, .bool false, .int .i64 0]) ?_ 1 _ rfl; (with_reducible repeat (first | refine blk_drewN ?_ _ | refine blk_drew ?_ | refine blk_alloc ?_ _)); refine blk_put (cs := #[.int .i64 0, .bool false, .int .i64 0]) ?_ 0 _ rfl; (with_reducible repeat (first | refine blk_drewN ?_ _ | refine blk_drew ?_ | refine blk_alloc ?_ _)); refine blk_far ?_ NB375_380.out _; (with_reducible repeat (first | refine blk_drewN ?_ _ | refine blk_drew ?_ | refine blk_alloc ?_ _)); exact BK375.out) Tryd.underlying78 rfl (by kernel_rfl)) rfl ?_
           exact ⟨q60_, q22_, q18_, q24_⟩
          ·rw [if_neg c68] at H
           have c68b0 : decide (511 < t378) = false := decide_eq_false c68
           clear c68
           simp only [Option.some.injEq, Prod.mk.injEq] at H
           obtain ⟨rfl, rfl, rfl, rfl⟩ := H
           go_wp2_with (first | ((with_reducible refine gate_callee (f := 40) rfl ?_); refine goesL_ (some 14) rfl rfl Tryd.func40 (by kernel_rfl) rfl #[.pointer (some ⟨g, 0, none⟩), .int .i64 10] rfl q55_ ?_; (with_reducible refine (spec_l1Rd_below.calls g s0_0 x1001_2 10 t383 t384 w0 _ ?side1 ?side2 A25.out).mono ?_); (case side1 => exact q110_); (case side2 => exact q108_); rintro e w75 ⟨rfl, hi, hb, hk⟩; refine ⟨_, rfl, ?_⟩; have n0_ := Aside0.mk (KeepBut.blk hk (g' := gb375) (o := .cells #[.int .i64 0, .bool false, .int .i64 0] 78 (0, 0)) q70_ NB375_0.out (by simp)); have n1_ := Aside0.mk (KeepBut.blk hk (g' := gb380) (o := .cells #[.int .i64 t376, .bool t377, .int .i64 t378] 78 (0, 0)) q71_ NB380_0.out (by simp)); have n2_ := Aside0.mk (KeepBut.trans q24_ hk (.inl rfl)); have n3_ := Aside0.mk (hb); have n4_ := Aside0.mk (hi); clear BK375; clear BK380; clear HK; clear HB; clear HI0; have BK375 := n0_; have BK380 := n1_; have HK := n2_; have HB := n3_; have HI0 := n4_; clear n0_ n1_ n2_ n3_ n4_; (try clear hb); (try clear hk); (try clear hi); have hnb76 := NB380_375.out; have hnc76 := NB375_380.out; have hnb77 := NB380_0.out; have hnc77 := NB0_380.out; have hcz78_0 : w75.cell? ⟨gb380, 0, none⟩ = some (.int .i64 t376) := (blk_cell BK380.out 0).trans rfl; have hcz78_1 : w75.cell? ⟨gb380, 1, none⟩ = some (.bool t377) := (blk_cell BK380.out 1).trans rfl; have hcz78_2 : w75.cell? ⟨gb380, 2, none⟩ = some (.int .i64 t378) := (blk_cell BK380.out 2).trans rfl; have hfz78_0 := blk_frozen BK380.out 0; have hfz78_1 := blk_frozen BK380.out 1; have hfz78_2 := blk_frozen BK380.out 2; have hnb79 := NB375_0.out; have hnc79 := NB0_375.out; have hcz80_0 : w75.cell? ⟨gb375, 0, none⟩ = some (.int .i64 0) := (blk_cell BK375.out 0).trans rfl; have hcz80_1 : w75.cell? ⟨gb375, 1, none⟩ = some (.bool false) := (blk_cell BK375.out 1).trans rfl; have hcz80_2 : w75.cell? ⟨gb375, 2, none⟩ = some (.int .i64 0) := (blk_cell BK375.out 2).trans rfl; have hfz80_0 := blk_frozen BK375.out 0; have hfz80_1 := blk_frozen BK375.out 1; have hfz80_2 := blk_frozen BK375.out 2))
           refine bodyPost_ret (results_cell_row rfl _ _ gb375 78 #[.int .i64 t376, .bool t377, .int .i64 t378] (0, 0) _ rfl q4_ Tryd.underlying78 rfl (by kernel_rfl)) rfl ?_
           exact ⟨q60_, q22_, q18_, q24_⟩
         ·rw [if_neg c67] at H
          have c67b0 : decide (192 ≤ t376) = false := decide_eq_false c67
          clear c67
          simp only [Option.some.injEq, Prod.mk.injEq] at H
          obtain ⟨rfl, rfl, rfl, rfl⟩ := H
          go_wp2_with (first | ((with_reducible refine gate_callee (f := 40) rfl ?_); refine goesL_ (some 14) rfl rfl Tryd.func40 (by kernel_rfl) rfl #[.pointer (some ⟨g, 0, none⟩), .int .i64 10] rfl q55_ ?_; (with_reducible refine (spec_l1Rd_below.calls g s0_0 x1001_2 10 t383 t384 w0 _ ?side1 ?side2 A25.out).mono ?_); (case side1 => exact q110_); (case side2 => exact q108_); rintro e w81 ⟨rfl, hi, hb, hk⟩; refine ⟨_, rfl, ?_⟩; have n0_ := Aside0.mk (KeepBut.blk hk (g' := gb375) (o := .cells #[.int .i64 0, .bool false, .int .i64 0] 78 (0, 0)) q70_ NB375_0.out (by simp)); have n1_ := Aside0.mk (KeepBut.blk hk (g' := gb380) (o := .cells #[.int .i64 t376, .bool t377, .int .i64 t378] 78 (0, 0)) q71_ NB380_0.out (by simp)); have n2_ := Aside0.mk (KeepBut.trans q24_ hk (.inl rfl)); have n3_ := Aside0.mk (hb); have n4_ := Aside0.mk (hi); clear BK375; clear BK380; clear HK; clear HB; clear HI0; have BK375 := n0_; have BK380 := n1_; have HK := n2_; have HB := n3_; have HI0 := n4_; clear n0_ n1_ n2_ n3_ n4_; (try clear hb); (try clear hk); (try clear hi); have hnb82 := NB380_375.out; have hnc82 := NB375_380.out; have hnb83 := NB380_0.out; have hnc83 := NB0_380.out; have hcz84_0 : w81.cell? ⟨gb380, 0, none⟩ = some (.int .i64 t376) := (blk_cell BK380.out 0).trans rfl; have hcz84_1 : w81.cell? ⟨gb380, 1, none⟩ = some (.bool t377) := (blk_cell BK380.out 1).trans rfl; have hcz84_2 : w81.cell? ⟨gb380, 2, none⟩ = some (.int .i64 t378) := (blk_cell BK380.out 2).trans rfl; have hfz84_0 := blk_frozen BK380.out 0; have hfz84_1 := blk_frozen BK380.out 1; have hfz84_2 := blk_frozen BK380.out 2; have hnb85 := NB375_0.out; have hnc85 := NB0_375.out; have hcz86_0 : w81.cell? ⟨gb375, 0, none⟩ = some (.int .i64 0) := (blk_cell BK375.out 0).trans rfl; have hcz86_1 : w81.cell? ⟨gb375, 1, none⟩ = some (.bool false) := (blk_cell BK375.out 1).trans rfl; have hcz86_2 : w81.cell? ⟨gb375, 2, none⟩ = some (.int .i64 0) := (blk_cell BK375.out 2).trans rfl; have hfz86_0 := blk_frozen BK375.out 0; have hfz86_1 := blk_frozen BK375.out 1; have hfz86_2 := blk_frozen BK375.out 2))
          refine bodyPost_ret (results_cell_row rfl _ _ gb375 78 #[.int .i64 t376, .bool t377, .int .i64 t378] (0, 0) _ rfl q4_ Tryd.underlying78 rfl (by kernel_rfl)) rfl ?_
          exact ⟨q60_, q22_, q18_, q24_⟩
end Go.Proofs.YtcohcndliaaacaaDoor.QFnHeaders
