/- The machine's side of a law, written by a program of this session for this claim. -/
import Derived.Test.YtcohcndliaaacaaZFnCartNewQq
import Derived.Test.YtcohcndliaaacaaZFnCartNewQFnCartNewx0
import Derived.Test.YtcohcndliaaacaaZFnCartNewQFnCartNewx2
import Derived.Test.YtcohcndliaaacaaZFnCartNewQFnCartNewx3
import Derived.Test.YtcohcndliaaacaaZFnCartNewQFnCartNewx4
import Derived.Test.YtcohcndliaaacaaZFnCartNewQFnCartNewx8
namespace Go.Proofs.Ytcohcndliaaacaa.QFnCartNew
open Go.Proofs.Ytcohcndliaaacaa.Qq
open Go.RowKit Go.Proofs.Ytcohcndliaaacaa.LibX Go.Proofs.Ytcohcndliaaacaa.LibC Go.Proofs.Ytcohcndliaaacaa.LibE Go.Proofs.YtcohcndliaaacaaW.PrintWords Go.Proofs.YtcohcndliaaacaaW.PrintLast Go.Proofs.YtcohcndliaaacaaW.PrintMore
attribute [local go_sem] max2_int min2_int max_two min_two max_three min_three max_four min_four   -- for this text's walks alone
set_option maxHeartbeats 8000000
set_option maxRecDepth 100000
set_option linter.unusedVariables false
set_option linter.unusedSimpArgs false
def spec_l1Rd_plain.j0 : Nat → Bool → List Int → Int → Int → Bool → Int → Option (Int × Bool × Int × Int)
 | 0, _, _, _, _, _, _ => none
 | k + 1, x11, x1000, x1001, x366000, x366001, x366002 => if x11 = true then (some (x366000, x366001, x366002, x1001)) else ((spec_l1Rd_below.f x1000 x1001 10).bind fun bt368 => (if bt368.1 = 0 then ((spec_l1Rd_byte.f x1000 bt368.2).bind fun bt370 => (some (62, false, bt370.1, bt370.2))) else (if bt368.1 = 1 then ((some (([49152, 65408, 256, 128, 40960] : List Int) : List Int)).bind fun y372 => ((spec_l1Rd_below.f x1000 bt368.2 5).bind fun bt375 => (if 0 ≤ bt375.1 then (if bt375.1 < (y372.length : Int) then (some (33, false, rd y372 bt375.1, bt375.2)) else (none)) else (none)))) else (if bt368.1 = 2 then (some (119, false, 0, bt368.2)) else (if bt368.1 = 3 then (some (224, false, 1, bt368.2)) else (if bt368.1 = 4 then ((some (([49152, 65281, 130, 10, 300, 40961] : List Int) : List Int)).bind fun y378 => ((spec_l1Rd_below.f x1000 bt368.2 6).bind fun bt381 => (if 0 ≤ bt381.1 then (if bt381.1 < (y378.length : Int) then (some (234, false, rd y378 bt381.1, bt381.2)) else (none)) else (none)))) else (if x366000 ≥ 192 then (if x366002 > 511 then (some (x366000, x366001, Int.tmod x366002 40, bt368.2)) else (some (x366000, x366001, x366002, bt368.2))) else (some (x366000, x366001, x366002, bt368.2)))))))))
def spec_l1Rd_plain.f (k : Nat) (s0_0 : List Int) (s0_1 : Int) : Option (Int × Bool × Int × Int) := (spec_l1Rd_ins.f k s0_0 s0_1).bind fun bt361 => (if bt361.2.1 = true then (spec_l1Rd_plain.j0 k true s0_0 bt361.2.2.2 bt361.1 bt361.2.1 bt361.2.2.1) else ((spec_l1Rd_once.f s0_0 bt361.2.2.2 6).bind fun bt366 => (spec_l1Rd_plain.j0 k bt366.1 s0_0 bt366.2 bt361.1 bt361.2.1 bt361.2.2.1)))
theorem spec_l1Rd_plain.mono_l : ∀ k, (∀ y0 y1 y2 y3 y4 y5, LeO (spec_l1Rd_plain.j0 k y0 y1 y2 y3 y4 y5) (spec_l1Rd_plain.j0 (k + 1) y0 y1 y2 y3 y4 y5))
 | 0 => fun _ _ _ _ _ _ r h => by simp [spec_l1Rd_plain.j0] at h
 | k + 1 => by
  have ih0 := spec_l1Rd_plain.mono_l k
  ·intro y0 y1 y2 y3 y4 y5
   unfold spec_l1Rd_plain.j0
   repeat' first
   | (with_reducible first | exact ih0 _ _ _ _ _ _ | exact spec_l1Rd_ins.mono _ _ _ | exact LeO.refl _ | exact LeO.none _ | refine LeO.ite ?_ ?_ | refine LeO.bind ?_ (fun _ => ?_))
   | exact ih0 _ _ _ _ _ _
   | exact spec_l1Rd_ins.mono _ _ _
   | exact LeO.none _
   | refine LeO.ite ?_ ?_
   | refine LeO.bind ?_ (fun _ => ?_)
theorem spec_l1Rd_plain.mono : ∀ a0 a1 k, LeO (spec_l1Rd_plain.f k a0 a1) (spec_l1Rd_plain.f (k + 1) a0 a1) := by
 intro a0 a1 k
 have ih0 := spec_l1Rd_plain.mono_l k
 unfold spec_l1Rd_plain.f
 repeat' first
   | (with_reducible first | exact ih0 _ _ _ _ _ _ | exact spec_l1Rd_ins.mono _ _ _ | exact LeO.refl _ | exact LeO.none _ | refine LeO.ite ?_ ?_ | refine LeO.bind ?_ (fun _ => ?_))
   | exact ih0 _ _ _ _ _ _
   | exact spec_l1Rd_ins.mono _ _ _
   | exact LeO.none _
   | refine LeO.ite ?_ ?_
   | refine LeO.bind ?_ (fun _ => ?_)
theorem spec_l1Rd_plain.calls (k : Nat) (g : Nat) (s0_0 : List Int) (s0_1 : Int) (r1 : Int) (r2 : Bool) (r3 : Int) (r4 : Int) (w0 w : World) (hI : IsS78 w0 w g s0_0 s0_1) (hB : Below w0.heap.size w0 w) (h : spec_l1Rd_plain.f k s0_0 s0_1 = some (r1, r2, r3, r4)) :
  Calls Try.prog 80 #[.pointer (some ⟨g, 0, none⟩)] w fun e w' => e = .returned (.agg #[.int .i64 r1, .bool r2, .int .i64 r3]) ∧ IsS78 w0 w' g s0_0 r4 ∧ Below w0.heap.size w0 w' ∧ KeepBut w w' g none := by
 have hu85 := Try.underlying85
 have HI0 := Aside0.mk hI
 have HK := Aside0.mk (KeepBut.refl w g none)
 have HL := Aside0.mk hB.size
 clear hI
 have HW0 := Aside0.mk hB.size
 have HB := Aside0.mk hB
 clear hB
 have H : ((spec_l1Rd_ins.f k s0_0 s0_1).bind fun bt361 => (if bt361.2.1 = true then (spec_l1Rd_plain.j0 k true s0_0 bt361.2.2.2 bt361.1 bt361.2.1 bt361.2.2.1) else ((spec_l1Rd_once.f s0_0 bt361.2.2.2 6).bind fun bt366 => (spec_l1Rd_plain.j0 k bt366.1 s0_0 bt366.2 bt361.1 bt361.2.1 bt361.2.2.1)))) = some (r1, r2, r3, r4) := h
 clear h
 replace H := Option.bind_eq_some_iff.mp H
 obtain ⟨⟨t361, t362, t363, t364⟩, A20, H⟩ := H
 replace H : (if t362 = true then (spec_l1Rd_plain.j0 k true s0_0 t364 t361 t362 t363) else ((spec_l1Rd_once.f s0_0 t364 6).bind fun bt366 => (spec_l1Rd_plain.j0 k bt366.1 s0_0 bt366.2 t361 t362 t363))) = some (r1, r2, r3, r4) := H
 have A2 := Aside0.mk A20
 clear A20
 have HC3 := Aside0.mk H
 clear H
 go_enter Try.func80, Try.ntmps80
 go_upto_region 2 with (first | ((with_reducible refine gate_dst (N := 2) rfl ?_); refine box_event ?hg (N := 2) ?hd (cs := #[.int .i64 0, .bool false, .int .i64 0]) (t := 85) ?hr ?_; (case hd => rfl); (case hg => rfl); (case hr => exact q109_); intro gb360 hg w4 hbox hb; have n0_ := Aside0.mk (IsS78.below q51_ hb); have n1_ := Aside0.mk (KeepBut.trans q52_ (KeepBut.of_below hb g none) (.inl rfl)); have n2_ := Aside0.mk (below_step q37_ hb); have n3_ := Aside0.mk (hbox); have n4_ := Aside0.mk ((q25_ : w.heap.size ≤ gb360)); have n5_ := Aside0.mk ((Nat.le_trans HW0.out (q25_ : w.heap.size ≤ gb360) : w0.heap.size ≤ gb360)); have n6_ := Aside0.mk ((q19_ : g ≠ gb360)); have n7_ := Aside0.mk ((q20_ : gb360 ≠ g)); clear HI0; clear HK; clear HB; have HI0 := n0_; have HK := n1_; have HB := n2_; have BK360 := n3_; have GW360 := n4_; have GE360 := n5_; have NB0_360 := n6_; have NB360_0 := n7_; clear n0_ n1_ n2_ n3_ n4_ n5_ n6_ n7_; clear hb hbox hg) | ((with_reducible refine gate_callee (f := 88) rfl ?_); refine goesL_ (some 5) rfl rfl Try.func88 (by kernel_rfl) rfl #[.pointer (some ⟨g, 0, none⟩)] rfl q53_ ?_; (with_reducible refine (spec_l1Rd_ins.calls k g s0_0 s0_1 t361 t362 t363 t364 w0 _ ?side1 ?side2 A2.out).mono ?_); (case side1 => repeat (first | (with_reducible first | exact HI0.out | apply IsS78.alloc | apply IsS78.drewN | apply IsS78.drew | apply IsS78.set_1 | refine IsS78.far ?_ NB0_360.out _) | exact HI0.out)); (case side2 => repeat (first | (with_reducible first | exact HB.out | apply below_alloc | apply pw_below_drewN | apply below_drew1 | refine below_set ?_ (IsS78.ge HI0.out) | refine below_set ?_ GE360.out) | exact HB.out)); rintro e w5 ⟨rfl, hi, hb, hk⟩; refine ⟨_, rfl, ?_⟩; have n0_ := Aside0.mk (KeepBut.blk hk (g' := gb360) (o := .cells #[.int .i64 0, .bool false, .int .i64 0] 85 (0, 0)) q66_ NB360_0.out (by simp)); have n1_ := Aside0.mk (KeepBut.trans q36_ hk (.inl rfl)); have n2_ := Aside0.mk (hb); have n3_ := Aside0.mk (hi); clear BK360; clear HK; clear HB; clear HI0; have BK360 := n0_; have HK := n1_; have HB := n2_; have HI0 := n3_; clear n0_ n1_ n2_ n3_; (try clear hb); (try clear hk); (try clear hi)) | ((with_reducible refine gate_dst (N := 3) rfl ?_); refine box_event ?hg (N := 3) ?hd (cs := #[.int .i64 0, .bool false, .int .i64 0]) (t := 85) ?hr ?_; (case hd => rfl); (case hg => rfl); (case hr => exact q109_); intro gb365 hg w6 hbox hb; have n0_ := Aside0.mk (IsS78.below (by repeat (first | (with_reducible first | exact HI0.out | apply IsS78.alloc | apply IsS78.drewN | apply IsS78.drew | apply IsS78.set_1 | refine IsS78.far ?_ NB0_360.out _) | exact HI0.out)) hb); have n1_ := Aside0.mk (blk_below (g := gb360) (o := .cells #[.int .i64 0, .bool false, .int .i64 0] 85 (0, 0)) q66_ hb); have n2_ := Aside0.mk (KeepBut.trans q36_ (KeepBut.of_below hb g none) (.inl rfl)); have n3_ := Aside0.mk (below_step (by repeat (first | (with_reducible first | exact HB.out | apply below_alloc | apply pw_below_drewN | apply below_drew1 | refine below_set ?_ (IsS78.ge HI0.out) | refine below_set ?_ GE360.out) | exact HB.out)) hb); have n4_ := Aside0.mk (hbox); have n5_ := Aside0.mk ((q16_ : w.heap.size ≤ gb365)); have n6_ := Aside0.mk ((Nat.le_trans HW0.out (q16_ : w.heap.size ≤ gb365) : w0.heap.size ≤ gb365)); have n7_ := Aside0.mk ((by rw [hg]; exact Nat.ne_of_lt (blk_lt (g := gb360) (o := .cells #[.int .i64 0, .bool false, .int .i64 0] 85 (0, 0)) q66_) : gb360 ≠ gb365)); have n8_ := Aside0.mk ((by rw [hg]; exact Nat.ne_of_gt (blk_lt (g := gb360) (o := .cells #[.int .i64 0, .bool false, .int .i64 0] 85 (0, 0)) q66_) : gb365 ≠ gb360)); have n9_ := Aside0.mk ((by rw [hg]; exact Nat.ne_of_lt (IsS78.lt (show IsS78 w0 _ g s0_0 t364 from by repeat (first | (with_reducible first | exact HI0.out | apply IsS78.alloc | apply IsS78.drewN | apply IsS78.drew | apply IsS78.set_1 | refine IsS78.far ?_ NB0_360.out _) | exact HI0.out))) : g ≠ gb365)); have n10_ := Aside0.mk ((by rw [hg]; exact Nat.ne_of_gt (IsS78.lt (show IsS78 w0 _ g s0_0 t364 from by repeat (first | (with_reducible first | exact HI0.out | apply IsS78.alloc | apply IsS78.drewN | apply IsS78.drew | apply IsS78.set_1 | refine IsS78.far ?_ NB0_360.out _) | exact HI0.out))) : gb365 ≠ g)); clear HI0; clear BK360; clear HK; clear HB; have HI0 := n0_; have BK360 := n1_; have HK := n2_; have HB := n3_; have BK365 := n4_; have GW365 := n5_; have GE365 := n6_; have NB360_365 := n7_; have NB365_360 := n8_; have NB0_365 := n9_; have NB365_0 := n10_; clear n0_ n1_ n2_ n3_ n4_ n5_ n6_ n7_ n8_ n9_ n10_; clear hb hbox hg; have hnb7 := NB365_360.out; have hnc7 := NB360_365.out; have hnb8 := NB365_0.out; have hnc8 := NB0_365.out; have hcz9_0 : w6.cell? ⟨gb365, 0, none⟩ = some (.int .i64 0) := (blk_cell BK365.out 0).trans rfl; have hcz9_1 : w6.cell? ⟨gb365, 1, none⟩ = some (.bool false) := (blk_cell BK365.out 1).trans rfl; have hcz9_2 : w6.cell? ⟨gb365, 2, none⟩ = some (.int .i64 0) := (blk_cell BK365.out 2).trans rfl; have hfz9_0 := blk_frozen BK365.out 0; have hfz9_1 := blk_frozen BK365.out 1; have hfz9_2 := blk_frozen BK365.out 2))
 (try simp only [Act.put, List.setIfInBounds_toArray, List.set_cons_zero, List.set_cons_succ])
 go_cut [11] (fun v11 wc => ∃ (kq : Nat) (x11_2 : Bool) (x1001_2 : Int), v11 = .bool x11_2 ∧ Aside0 (spec_l1Rd_plain.j0 kq x11_2 s0_0 x1001_2 t361 t362 t363 = some (r1, r2, r3, r4)) ∧ Aside0 (kq ≤ k) ∧ Aside0 (wc.heap[gb360]? = some (.cells #[.int .i64 0, .bool false, .int .i64 0] 85 (0, 0))) ∧ Aside0 (wc.heap[gb365]? = some (.cells #[.int .i64 t361, .bool t362, .int .i64 t363] 85 (0, 0))) ∧ Aside0 (IsS78 w0 wc g s0_0 x1001_2) ∧ Aside0 (KeepBut w wc g none) ∧ Aside0 (Below w0.heap.size w0 wc))
 case first =>
  have H := HC3.out
  clear HC3
  by_cases c10 : t362 = true
  ·subst c10
   replace H : (spec_l1Rd_plain.j0 k true s0_0 t364 t361 true t363) = some (r1, r2, r3, r4) := by rw [if_pos rfl] at H; exact H
   have H' := Aside0.mk H
   clear H
   have hnb11 := NB365_360.out
   have hnc11 := NB360_365.out
   have hnb12 := NB365_0.out
   have hnc12 := NB0_365.out
   have hcz13_0 : w6.cell? ⟨gb365, 0, none⟩ = some (.int .i64 0) := bz_ BK365 0
   have hcz13_1 : w6.cell? ⟨gb365, 1, none⟩ = some (.bool false) := bz_ BK365 1
   have hcz13_2 : w6.cell? ⟨gb365, 2, none⟩ = some (.int .i64 0) := bz_ BK365 2
   have hfz13_0 := blk_frozen BK365.out 0
   have hfz13_1 := blk_frozen BK365.out 1
   have hfz13_2 := blk_frozen BK365.out 2
   go_wp2
   go_meet
   case rel => exact ⟨_, (true), (t364), q74_, H', ⟨q94_⟩, ⟨q8_⟩, ⟨by (with_reducible repeat (first | refine blk_drewN ?_ _ | refine blk_drew ?_ | refine blk_alloc ?_ _)); refine blk_put (cs := #[.int .i64 t361, .bool true, .int .i64 0]) ?_ 2 _ rfl; (with_reducible repeat (first | refine blk_drewN ?_ _ | refine blk_drew ?_ | refine blk_alloc ?_ _)); refine blk_put (cs := #[.int .i64 t361, .bool false, .int .i64 0]) ?_ 1 _ rfl; (with_reducible repeat (first | refine blk_drewN ?_ _ | refine blk_drew ?_ | refine blk_alloc ?_ _)); refine blk_put (cs := #[.int .i64 0, .bool false, .int .i64 0]) ?_ 0 _ rfl; (with_reducible repeat (first | refine blk_drewN ?_ _ | refine blk_drew ?_ | refine blk_alloc ?_ _)); exact BK365.out⟩, ⟨q22_⟩, ⟨q24_⟩, ⟨q18_⟩⟩
  ·replace c10 := Bool.eq_false_iff.mpr c10
   subst c10
   replace H : ((spec_l1Rd_once.f s0_0 t364 6).bind fun bt366 => (spec_l1Rd_plain.j0 k bt366.1 s0_0 bt366.2 t361 false t363)) = some (r1, r2, r3, r4) := by rw [if_neg (show ¬ (false = true) by decide)] at H; exact H
   replace H := Option.bind_eq_some_iff.mp H
   obtain ⟨⟨t366, t367⟩, A140, H⟩ := H
   replace H : (spec_l1Rd_plain.j0 k t366 s0_0 t367 t361 false t363) = some (r1, r2, r3, r4) := H
   have A14 := Aside0.mk A140
   clear A140
   have H' := Aside0.mk H
   clear H
   have hnb15 := NB365_360.out
   have hnc15 := NB360_365.out
   have hnb16 := NB365_0.out
   have hnc16 := NB0_365.out
   have hcz17_0 : w6.cell? ⟨gb365, 0, none⟩ = some (.int .i64 0) := bz_ BK365 0
   have hcz17_1 : w6.cell? ⟨gb365, 1, none⟩ = some (.bool false) := bz_ BK365 1
   have hcz17_2 : w6.cell? ⟨gb365, 2, none⟩ = some (.int .i64 0) := bz_ BK365 2
   have hfz17_0 := blk_frozen BK365.out 0
   have hfz17_1 := blk_frozen BK365.out 1
   have hfz17_2 := blk_frozen BK365.out 2
   go_wp2_with (first | (go_at_call 56; (with_reducible refine (spec_l1Rd_once.calls g s0_0 t364 6 t366 t367 w0 _ ?side1 ?side2 A14.out).mono ?_); (case side1 => exact q101_); (case side2 => exact q99_); rintro e w18 ⟨rfl, hi, hb, hk⟩; have n0_ := Aside0.mk (KeepBut.blk hk (g' := gb360) (o := .cells #[.int .i64 0, .bool false, .int .i64 0] 85 (0, 0)) q8_ NB360_0.out (by simp)); have n1_ := Aside0.mk (KeepBut.blk hk (g' := gb365) (o := .cells #[.int .i64 t361, .bool false, .int .i64 t363] 85 (0, 0)) (by (with_reducible repeat (first | refine blk_drewN ?_ _ | refine blk_drew ?_ | refine blk_alloc ?_ _)); refine blk_put (cs := #[.int .i64 t361, .bool false, .int .i64 0]) ?_ 2 _ rfl; (with_reducible repeat (first | refine blk_drewN ?_ _ | refine blk_drew ?_ | refine blk_alloc ?_ _)); refine blk_put (cs := #[.int .i64 t361, .bool false, .int .i64 0]) ?_ 1 _ rfl; (with_reducible repeat (first | refine blk_drewN ?_ _ | refine blk_drew ?_ | refine blk_alloc ?_ _)); refine blk_put (cs := #[.int .i64 0, .bool false, .int .i64 0]) ?_ 0 _ rfl; (with_reducible repeat (first | refine blk_drewN ?_ _ | refine blk_drew ?_ | refine blk_alloc ?_ _)); exact BK365.out) NB365_0.out (by simp)); have n2_ := Aside0.mk (KeepBut.trans q24_ hk (.inl rfl)); have n3_ := Aside0.mk (hb); have n4_ := Aside0.mk (hi); clear BK360; clear BK365; clear HK; clear HB; clear HI0; have BK360 := n0_; have BK365 := n1_; have HK := n2_; have HB := n3_; have HI0 := n4_; clear n0_ n1_ n2_ n3_ n4_; (try clear hb); (try clear hk); (try clear hi)))
   go_meet
   case rel => exact ⟨_, (t366), (t367), q74_, H', ⟨q94_⟩, ⟨q66_⟩, ⟨q67_⟩, ⟨q22_⟩, ⟨q24_⟩, ⟨q18_⟩⟩
 case rest =>
  clear HC3
  try clear c1
  try clear p2
  try clear p6
  try clear c7
  try clear c8
  try clear c10
  try clear c11
  try clear c12
  try clear c15
  try clear c16
  try clear hcz13_0 hcz13_1 hcz13_2
  try clear hcz17_0 hcz17_1 hcz17_2
  try clear hcz9_0 hcz9_1 hcz9_2
  try clear hfz13_0 hfz13_1 hfz13_2
  try clear hfz17_0 hfz17_1 hfz17_2
  try clear hfz9_0 hfz9_1 hfz9_2
  obtain ⟨kq, x11_2, x1001_2, rfl, HA, HJ2, BK360, BK365, HI0, HK, HB⟩ := hcut
  cases kq with
  | zero => exact absurd HA.out (by simp [spec_l1Rd_plain.j0])
  | succ kj2 =>
   have H := HA.out
   clear HA
   simp only [spec_l1Rd_plain.j0] at H
   by_cases c19 : x11_2 = true
   ·subst c19
    replace H : (some (t361, t362, t363, x1001_2)) = some (r1, r2, r3, r4) := by rw [if_pos rfl] at H; exact H
    simp only [Option.some.injEq, Prod.mk.injEq] at H
    obtain ⟨rfl, rfl, rfl, rfl⟩ := H
    have hnb20 := NB365_360.out
    have hnc20 := NB360_365.out
    have hnb21 := NB365_0.out
    have hnc21 := NB0_365.out
    have hcz22_0 : wc.cell? ⟨gb365, 0, none⟩ = some (.int .i64 t361) := bz_ BK365 0
    have hcz22_1 : wc.cell? ⟨gb365, 1, none⟩ = some (.bool t362) := bz_ BK365 1
    have hcz22_2 : wc.cell? ⟨gb365, 2, none⟩ = some (.int .i64 t363) := bz_ BK365 2
    have hfz22_0 := blk_frozen BK365.out 0
    have hfz22_1 := blk_frozen BK365.out 1
    have hfz22_2 := blk_frozen BK365.out 2
    have hnb23 := NB360_0.out
    have hnc23 := NB0_360.out
    have hcz24_0 : wc.cell? ⟨gb360, 0, none⟩ = some (.int .i64 0) := bz_ BK360 0
    have hcz24_1 : wc.cell? ⟨gb360, 1, none⟩ = some (.bool false) := bz_ BK360 1
    have hcz24_2 : wc.cell? ⟨gb360, 2, none⟩ = some (.int .i64 0) := bz_ BK360 2
    have hfz24_0 := blk_frozen BK360.out 0
    have hfz24_1 := blk_frozen BK360.out 1
    have hfz24_2 := blk_frozen BK360.out 2
    go_wp2
    refine bodyPost_ret (results_cell_row rfl _ _ gb360 85 #[.int .i64 t361, .bool t362, .int .i64 t363] (0, 0) _ rfl q7_ Try.underlying85 rfl (by kernel_rfl)) rfl ?_
    exact ⟨q55_, q22_, q18_, q24_⟩
   ·replace c19 := Bool.eq_false_iff.mpr c19
    subst c19
    replace H : ((spec_l1Rd_below.f s0_0 x1001_2 10).bind fun bt368 => (if bt368.1 = 0 then ((spec_l1Rd_byte.f s0_0 bt368.2).bind fun bt370 => (some (62, false, bt370.1, bt370.2))) else (if bt368.1 = 1 then ((some (([49152, 65408, 256, 128, 40960] : List Int) : List Int)).bind fun y372 => ((spec_l1Rd_below.f s0_0 bt368.2 5).bind fun bt375 => (if 0 ≤ bt375.1 then (if bt375.1 < (y372.length : Int) then (some (33, false, rd y372 bt375.1, bt375.2)) else (none)) else (none)))) else (if bt368.1 = 2 then (some (119, false, 0, bt368.2)) else (if bt368.1 = 3 then (some (224, false, 1, bt368.2)) else (if bt368.1 = 4 then ((some (([49152, 65281, 130, 10, 300, 40961] : List Int) : List Int)).bind fun y378 => ((spec_l1Rd_below.f s0_0 bt368.2 6).bind fun bt381 => (if 0 ≤ bt381.1 then (if bt381.1 < (y378.length : Int) then (some (234, false, rd y378 bt381.1, bt381.2)) else (none)) else (none)))) else (if t361 ≥ 192 then (if t363 > 511 then (some (t361, t362, Int.tmod t363 40, bt368.2)) else (some (t361, t362, t363, bt368.2))) else (some (t361, t362, t363, bt368.2))))))))) = some (r1, r2, r3, r4) := by rw [if_neg (show ¬ (false = true) by decide)] at H; exact H
    replace H := Option.bind_eq_some_iff.mp H
    obtain ⟨⟨t368, t369⟩, A250, H⟩ := H
    replace H : (if t368 = 0 then ((spec_l1Rd_byte.f s0_0 t369).bind fun bt370 => (some (62, false, bt370.1, bt370.2))) else (if t368 = 1 then ((some (([49152, 65408, 256, 128, 40960] : List Int) : List Int)).bind fun y372 => ((spec_l1Rd_below.f s0_0 t369 5).bind fun bt375 => (if 0 ≤ bt375.1 then (if bt375.1 < (y372.length : Int) then (some (33, false, rd y372 bt375.1, bt375.2)) else (none)) else (none)))) else (if t368 = 2 then (some (119, false, 0, t369)) else (if t368 = 3 then (some (224, false, 1, t369)) else (if t368 = 4 then ((some (([49152, 65281, 130, 10, 300, 40961] : List Int) : List Int)).bind fun y378 => ((spec_l1Rd_below.f s0_0 t369 6).bind fun bt381 => (if 0 ≤ bt381.1 then (if bt381.1 < (y378.length : Int) then (some (234, false, rd y378 bt381.1, bt381.2)) else (none)) else (none)))) else (if t361 ≥ 192 then (if t363 > 511 then (some (t361, t362, Int.tmod t363 40, t369)) else (some (t361, t362, t363, t369))) else (some (t361, t362, t363, t369)))))))) = some (r1, r2, r3, r4) := H
    have A25 := Aside0.mk A250
    clear A250
    by_cases c26 : t368 = 0
    ·rw [if_pos c26] at H
     have c26b0 : (t368 == 0) = true := beq_iff_eq.mpr c26
     have c26b1 : (t368 != 0) = false := bne_eq_false_iff_eq.mpr c26
     clear c26
     replace H := Option.bind_eq_some_iff.mp H
     obtain ⟨⟨t370, t371⟩, A270, H⟩ := H
     replace H : (some (62, false, t370, t371)) = some (r1, r2, r3, r4) := H
     have A27 := Aside0.mk A270
     clear A270
     simp only [Option.some.injEq, Prod.mk.injEq] at H
     obtain ⟨rfl, rfl, rfl, rfl⟩ := H
     go_wp2_with (first | ((with_reducible refine gate_callee (f := 37) rfl ?_); refine goesL_ (some 14) rfl rfl Try.func37 (by kernel_rfl) rfl #[.pointer (some ⟨g, 0, none⟩), .int .i64 10] rfl q53_ ?_; (with_reducible refine (spec_l1Rd_below.calls g s0_0 x1001_2 10 t368 t369 w0 _ ?side1 ?side2 A25.out).mono ?_); (case side1 => exact q101_); (case side2 => exact q99_); rintro e w28 ⟨rfl, hi, hb, hk⟩; refine ⟨_, rfl, ?_⟩; have n0_ := Aside0.mk (KeepBut.blk hk (g' := gb360) (o := .cells #[.int .i64 0, .bool false, .int .i64 0] 85 (0, 0)) q66_ NB360_0.out (by simp)); have n1_ := Aside0.mk (KeepBut.blk hk (g' := gb365) (o := .cells #[.int .i64 t361, .bool t362, .int .i64 t363] 85 (0, 0)) q67_ NB365_0.out (by simp)); have n2_ := Aside0.mk (KeepBut.trans q24_ hk (.inl rfl)); have n3_ := Aside0.mk (hb); have n4_ := Aside0.mk (hi); clear BK360; clear BK365; clear HK; clear HB; clear HI0; have BK360 := n0_; have BK365 := n1_; have HK := n2_; have HB := n3_; have HI0 := n4_; clear n0_ n1_ n2_ n3_ n4_; (try clear hb); (try clear hk); (try clear hi)) | ((with_reducible refine gate_callee (f := 58) rfl ?_); refine goesL_ (some 18) rfl rfl Try.func58 (by kernel_rfl) rfl #[.pointer (some ⟨g, 0, none⟩)] rfl q53_ ?_; (with_reducible refine (spec_l1Rd_byte.calls g s0_0 t369 t370 t371 w0 _ ?side1 ?side2 A27.out).mono ?_); (case side1 => exact q101_); (case side2 => exact q99_); rintro e w29 ⟨rfl, hi, hb, hk⟩; refine ⟨_, rfl, ?_⟩; have n0_ := Aside0.mk (KeepBut.blk hk (g' := gb360) (o := .cells #[.int .i64 0, .bool false, .int .i64 0] 85 (0, 0)) q66_ NB360_0.out (by simp)); have n1_ := Aside0.mk (KeepBut.blk hk (g' := gb365) (o := .cells #[.int .i64 t361, .bool t362, .int .i64 t363] 85 (0, 0)) q67_ NB365_0.out (by simp)); have n2_ := Aside0.mk (KeepBut.trans q24_ hk (.inl rfl)); have n3_ := Aside0.mk (hb); have n4_ := Aside0.mk (hi); clear BK360; clear BK365; clear HK; clear HB; clear HI0; have BK360 := n0_; have BK365 := n1_; have HK := n2_; have HB := n3_; have HI0 := n4_; clear n0_ n1_ n2_ n3_ n4_; (try clear hb); (try clear hk); (try clear hi); have hnb30 := NB360_365.out; have hnc30 := NB365_360.out; have hnb31 := NB360_0.out; have hnc31 := NB0_360.out; have hcz32_0 : w29.cell? ⟨gb360, 0, none⟩ = some (.int .i64 0) := (blk_cell BK360.out 0).trans rfl; have hcz32_1 : w29.cell? ⟨gb360, 1, none⟩ = some (.bool false) := (blk_cell BK360.out 1).trans rfl; have hcz32_2 : w29.cell? ⟨gb360, 2, none⟩ = some (.int .i64 0) := (blk_cell BK360.out 2).trans rfl; have hfz32_0 := blk_frozen BK360.out 0; have hfz32_1 := blk_frozen BK360.out 1; have hfz32_2 := blk_frozen BK360.out 2))
     refine bodyPost_ret (results_cell_row rfl _ _ gb360 85 #[.int .i64 62, .bool false, .int .i64 t370] (0, 0) _ rfl (by (with_reducible repeat (first | refine blk_drewN ?_ _ | refine blk_drew ?_ | refine blk_alloc ?_ _)); refine blk_put (cs := #[.int .i64 62, .bool false, .int .i64 0]) ?_ 2 _ rfl; (with_reducible repeat (first | refine blk_drewN ?_ _ | refine blk_drew ?_ | refine blk_alloc ?_ _)); refine blk_put (cs := #[.int .i64 62, .bool false, .int .i64 0]) ?_ 1 _ rfl; (with_reducible repeat (first | refine blk_drewN ?_ _ | refine blk_drew ?_ | refine blk_alloc ?_ _)); refine blk_put (cs := #[.int .i64 0, .bool false, .int .i64 0]) ?_ 0 _ rfl; (with_reducible repeat (first | refine blk_drewN ?_ _ | refine blk_drew ?_ | refine blk_alloc ?_ _)); exact BK360.out) Try.underlying85 rfl (by kernel_rfl)) rfl ?_
     exact ⟨q55_, q22_, q18_, q24_⟩
    ·rw [if_neg c26] at H
     have c26b0 : (t368 == 0) = false := beq_eq_false_iff_ne.mpr c26
     have c26b1 : (t368 != 0) = true := bne_iff_ne.mpr c26
     by_cases c33 : t368 = 1
     ·rw [if_pos c33] at H
      have c33b0 : (t368 == 1) = true := beq_iff_eq.mpr c33
      have c33b1 : (t368 != 1) = false := bne_eq_false_iff_eq.mpr c33
      clear c33
      obtain ⟨y372, hy372⟩ : ∃ y_ : List Int, y_ = (([49152, 65408, 256, 128, 40960] : List Int)) := ⟨_, rfl⟩
      replace H : ((spec_l1Rd_below.f s0_0 t369 5).bind fun bt375 => (if 0 ≤ bt375.1 then (if bt375.1 < (y372.length : Int) then (some (33, false, rd y372 bt375.1, bt375.2)) else (none)) else (none))) = some (r1, r2, r3, r4) := by first | (rw [hy372]; with_reducible exact H) | (have H2_ := (Option.bind_some _ _).symm.trans H; rw [hy372]; with_reducible exact H2_) | (have H2_ := (Option.bind_some _ _).symm.trans H; with_reducible exact H2_) | with_reducible exact H | (rw [hy372]; exact H) | exact H
      have Ny372 := Aside0.mk hy372
      clear hy372
      replace H := Option.bind_eq_some_iff.mp H
      obtain ⟨⟨t375, t376⟩, A340, H⟩ := H
      replace H : (if 0 ≤ t375 then (if t375 < (y372.length : Int) then (some (33, false, rd y372 t375, t376)) else (none)) else (none)) = some (r1, r2, r3, r4) := H
      have A34 := Aside0.mk A340
      clear A340
      by_cases c35 : 0 ≤ t375
      ·rw [if_pos c35] at H
       have c35b0 : decide (0 ≤ t375) = true := decide_eq_true c35
       clear c35
       by_cases c36 : t375 < (y372.length : Int)
       ·rw [if_pos c36] at H
        have c36b0 : decide (t375 < (y372.length : Int)) = true := decide_eq_true c36
        clear c36
        simp only [Option.some.injEq, Prod.mk.injEq] at H
        obtain ⟨rfl, rfl, rfl, rfl⟩ := H
        go_wp2_with (first | ((with_reducible refine gate_callee (f := 37) rfl ?_); refine goesL_ (some 14) rfl rfl Try.func37 (by kernel_rfl) rfl #[.pointer (some ⟨g, 0, none⟩), .int .i64 10] rfl q53_ ?_; (with_reducible refine (spec_l1Rd_below.calls g s0_0 x1001_2 10 t368 t369 w0 _ ?side1 ?side2 A25.out).mono ?_); (case side1 => exact q101_); (case side2 => exact q99_); rintro e w37 ⟨rfl, hi, hb, hk⟩; refine ⟨_, rfl, ?_⟩; have n0_ := Aside0.mk (KeepBut.blk hk (g' := gb360) (o := .cells #[.int .i64 0, .bool false, .int .i64 0] 85 (0, 0)) q66_ NB360_0.out (by simp)); have n1_ := Aside0.mk (KeepBut.blk hk (g' := gb365) (o := .cells #[.int .i64 t361, .bool t362, .int .i64 t363] 85 (0, 0)) q67_ NB365_0.out (by simp)); have n2_ := Aside0.mk (KeepBut.trans q24_ hk (.inl rfl)); have n3_ := Aside0.mk (hb); have n4_ := Aside0.mk (hi); clear BK360; clear BK365; clear HK; clear HB; clear HI0; have BK360 := n0_; have BK365 := n1_; have HK := n2_; have HB := n3_; have HI0 := n4_; clear n0_ n1_ n2_ n3_ n4_; (try clear hb); (try clear hk); (try clear hi)) | ((with_reducible refine gate_dst (N := 22) rfl ?_); refine Kd.R_lit (Kd.int .i64) _ 2 ?hg (N := 22) ?hd (xs := ([49152, 65408, 256, 128, 40960] : List Int)) (inner := [.int .i64 49152, .int .i64 65408, .int .i64 256, .int .i64 128, .int .i64 40960]) (ok := fun _ => True) (okp := fun _ => True) ?hr ?hp (fun _ hk => hk) trivial (Below.refl _ _) (Nat.le_refl _) (by simp) ?_; (case hd => rfl); (case hg => rfl); (case hr => exact q109_); (case hp => exact (Reps.one (show Kd.M (Kd.int .i64) _ _ _ 49152 [.int .i64 49152] from rfl) (Reps.one (show Kd.M (Kd.int .i64) _ _ _ 65408 [.int .i64 65408] from rfl) (Reps.one (show Kd.M (Kd.int .i64) _ _ _ 256 [.int .i64 256] from rfl) (Reps.one (show Kd.M (Kd.int .i64) _ _ _ 128 [.int .i64 128] from rfl) (Reps.one (show Kd.M (Kd.int .i64) _ _ _ 40960 [.int .i64 40960] from rfl) (Reps.none _ _))))))); intro v373 w38 ho39 hb hg_ hnew_; clear hg_ hnew_; (first | rw [← Ny372.out] at ho39 | (simp only [Int.reduceToNat] at ho39; rw [← Ny372.out] at ho39)); have n0_ := Aside0.mk (Kd.R_lower ho39 (keep_size (w := w) (g := g) (row := none) q24_)); have n1_ := Aside0.mk (blk_below (g := gb360) (o := .cells #[.int .i64 0, .bool false, .int .i64 0] 85 (0, 0)) q66_ hb); have n2_ := Aside0.mk (blk_below (g := gb365) (o := .cells #[.int .i64 t361, .bool t362, .int .i64 t363] 85 (0, 0)) q67_ hb); have n3_ := Aside0.mk (IsS78.below q22_ hb); have n4_ := Aside0.mk (KeepBut.trans q24_ (KeepBut.of_below hb g none) (.inl rfl)); have n5_ := Aside0.mk (below_step q18_ hb); clear BK360; clear BK365; clear HI0; clear HK; clear HB; have HO374 := n0_; have BK360 := n1_; have BK365 := n2_; have HI0 := n3_; have HK := n4_; have HB := n5_; clear n0_ n1_ n2_ n3_ n4_ n5_; clear hb ho39) | ((with_reducible refine gate_callee (f := 37) rfl ?_); refine goesL_ (some 24) rfl rfl Try.func37 (by kernel_rfl) rfl #[.pointer (some ⟨g, 0, none⟩), .int .i64 5] rfl q53_ ?_; (with_reducible refine (spec_l1Rd_below.calls g s0_0 t369 5 t375 t376 w0 _ ?side1 ?side2 A34.out).mono ?_); (case side1 => exact q101_); (case side2 => exact q99_); rintro e w40 ⟨rfl, hi, hb, hk⟩; refine ⟨_, rfl, ?_⟩; have n0_ := Aside0.mk (KeepBut.blk hk (g' := gb360) (o := .cells #[.int .i64 0, .bool false, .int .i64 0] 85 (0, 0)) q66_ NB360_0.out (by simp)); have n1_ := Aside0.mk (KeepBut.blk hk (g' := gb365) (o := .cells #[.int .i64 t361, .bool t362, .int .i64 t363] 85 (0, 0)) q67_ NB365_0.out (by simp)); have n2_ := Aside0.mk (Kd.R_mono (Kd.R_keep (IsS78.apart (show IsS78 w0 _ g s0_0 t369 from by repeat (first | (with_reducible first | exact HI0.out | apply IsS78.alloc | apply IsS78.drewN | apply IsS78.drew | apply IsS78.set_1 | refine IsS78.far ?_ NB0_360.out _ | refine IsS78.far ?_ NB0_365.out _) | exact HI0.out)) (by (with_reducible repeat (first | apply Kd.R_alloc | apply Kd.R_drewN | apply Kd.R_drew)); exact HO374.out) (by decide)) hk (fun _ h => h.2)) (fun _ h => h.1)); have n3_ := Aside0.mk (KeepBut.trans q24_ hk (.inl rfl)); have n4_ := Aside0.mk (hb); have n5_ := Aside0.mk (hi); clear BK360; clear BK365; clear HO374; clear HK; clear HB; clear HI0; have BK360 := n0_; have BK365 := n1_; have HO374 := n2_; have HK := n3_; have HB := n4_; have HI0 := n5_; clear n0_ n1_ n2_ n3_ n4_ n5_; (try clear hb); (try clear hk); (try clear hi); obtain ⟨Ao41, co41, eo41⟩ := Kd.R_slice HO374.out; subst eo41; have p377 : 0 ≤ (t375 : Int) := of_decide_eq_true q82_; have q377 : t375 < (y372.length : Int) := of_decide_eq_true q82_; obtain ⟨ad377, e377, hx377_0⟩ := Kd.at_int (Kd.R_reads' HO374.out).2.2 t375 p377 q377; cases e377; replace p377 := eq_true p377; replace q377 := eq_true q377; have hnb42 := NB360_365.out; have hnc42 := NB365_360.out; have hnb43 := NB360_0.out; have hnc43 := NB0_360.out; have hcz44_0 : w40.cell? ⟨gb360, 0, none⟩ = some (.int .i64 0) := (blk_cell BK360.out 0).trans rfl; have hcz44_1 : w40.cell? ⟨gb360, 1, none⟩ = some (.bool false) := (blk_cell BK360.out 1).trans rfl; have hcz44_2 : w40.cell? ⟨gb360, 2, none⟩ = some (.int .i64 0) := (blk_cell BK360.out 2).trans rfl; have hfz44_0 := blk_frozen BK360.out 0; have hfz44_1 := blk_frozen BK360.out 1; have hfz44_2 := blk_frozen BK360.out 2))
        refine bodyPost_ret (results_cell_row rfl _ _ gb360 85 #[.int .i64 33, .bool false, .int .i64 (rd y372 t375)] (0, 0) _ rfl (by (with_reducible repeat (first | refine blk_drewN ?_ _ | refine blk_drew ?_ | refine blk_alloc ?_ _)); refine blk_put (cs := #[.int .i64 33, .bool false, .int .i64 0]) ?_ 2 _ rfl; (with_reducible repeat (first | refine blk_drewN ?_ _ | refine blk_drew ?_ | refine blk_alloc ?_ _)); refine blk_put (cs := #[.int .i64 33, .bool false, .int .i64 0]) ?_ 1 _ rfl; (with_reducible repeat (first | refine blk_drewN ?_ _ | refine blk_drew ?_ | refine blk_alloc ?_ _)); refine blk_put (cs := #[.int .i64 0, .bool false, .int .i64 0]) ?_ 0 _ rfl; (with_reducible repeat (first | refine blk_drewN ?_ _ | refine blk_drew ?_ | refine blk_alloc ?_ _)); exact BK360.out) Try.underlying85 rfl (by kernel_rfl)) rfl ?_
        exact ⟨q55_, q22_, q18_, q24_⟩
       ·rw [if_neg c36] at H
        exact absurd H (by simp)
      ·rw [if_neg c35] at H
       exact absurd H (by simp)
     ·rw [if_neg c33] at H
      have c33b0 : (t368 == 1) = false := beq_eq_false_iff_ne.mpr c33
      have c33b1 : (t368 != 1) = true := bne_iff_ne.mpr c33
      by_cases c45 : t368 = 2
      ·rw [if_pos c45] at H
       have c45b0 : (t368 == 2) = true := beq_iff_eq.mpr c45
       have c45b1 : (t368 != 2) = false := bne_eq_false_iff_eq.mpr c45
       clear c45
       simp only [Option.some.injEq, Prod.mk.injEq] at H
       obtain ⟨rfl, rfl, rfl, rfl⟩ := H
       go_wp2_with (first | ((with_reducible refine gate_callee (f := 37) rfl ?_); refine goesL_ (some 14) rfl rfl Try.func37 (by kernel_rfl) rfl #[.pointer (some ⟨g, 0, none⟩), .int .i64 10] rfl q53_ ?_; (with_reducible refine (spec_l1Rd_below.calls g s0_0 x1001_2 10 t368 t369 w0 _ ?side1 ?side2 A25.out).mono ?_); (case side1 => exact q101_); (case side2 => exact q99_); rintro e w46 ⟨rfl, hi, hb, hk⟩; refine ⟨_, rfl, ?_⟩; have n0_ := Aside0.mk (KeepBut.blk hk (g' := gb360) (o := .cells #[.int .i64 0, .bool false, .int .i64 0] 85 (0, 0)) q66_ NB360_0.out (by simp)); have n1_ := Aside0.mk (KeepBut.blk hk (g' := gb365) (o := .cells #[.int .i64 t361, .bool t362, .int .i64 t363] 85 (0, 0)) q67_ NB365_0.out (by simp)); have n2_ := Aside0.mk (KeepBut.trans q24_ hk (.inl rfl)); have n3_ := Aside0.mk (hb); have n4_ := Aside0.mk (hi); clear BK360; clear BK365; clear HK; clear HB; clear HI0; have BK360 := n0_; have BK365 := n1_; have HK := n2_; have HB := n3_; have HI0 := n4_; clear n0_ n1_ n2_ n3_ n4_; (try clear hb); (try clear hk); (try clear hi); have hnb47 := NB360_365.out; have hnc47 := NB365_360.out; have hnb48 := NB360_0.out; have hnc48 := NB0_360.out; have hcz49_0 : w46.cell? ⟨gb360, 0, none⟩ = some (.int .i64 0) := (blk_cell BK360.out 0).trans rfl; have hcz49_1 : w46.cell? ⟨gb360, 1, none⟩ = some (.bool false) := (blk_cell BK360.out 1).trans rfl; have hcz49_2 : w46.cell? ⟨gb360, 2, none⟩ = some (.int .i64 0) := (blk_cell BK360.out 2).trans rfl; have hfz49_0 := blk_frozen BK360.out 0; have hfz49_1 := blk_frozen BK360.out 1; have hfz49_2 := blk_frozen BK360.out 2))
       refine bodyPost_ret (results_cell_row rfl _ _ gb360 85 #[.int .i64 119, .bool false, .int .i64 0] (0, 0) _ rfl (by (with_reducible repeat (first | refine blk_drewN ?_ _ | refine blk_drew ?_ | refine blk_alloc ?_ _)); refine blk_put (cs := #[.int .i64 119, .bool false, .int .i64 0]) ?_ 2 _ rfl; (with_reducible repeat (first | refine blk_drewN ?_ _ | refine blk_drew ?_ | refine blk_alloc ?_ _)); refine blk_put (cs := #[.int .i64 119, .bool false, .int .i64 0]) ?_ 1 _ rfl; (with_reducible repeat (first | refine blk_drewN ?_ _ | refine blk_drew ?_ | refine blk_alloc ?_ _)); refine blk_put (cs := #[.int .i64 0, .bool false, .int .i64 0]) ?_ 0 _ rfl; (with_reducible repeat (first | refine blk_drewN ?_ _ | refine blk_drew ?_ | refine blk_alloc ?_ _)); exact BK360.out) Try.underlying85 rfl (by kernel_rfl)) rfl ?_
       exact ⟨q55_, q22_, q18_, q24_⟩
      ·rw [if_neg c45] at H
       have c45b0 : (t368 == 2) = false := beq_eq_false_iff_ne.mpr c45
       have c45b1 : (t368 != 2) = true := bne_iff_ne.mpr c45
       by_cases c50 : t368 = 3
       ·rw [if_pos c50] at H
        have c50b0 : (t368 == 3) = true := beq_iff_eq.mpr c50
        have c50b1 : (t368 != 3) = false := bne_eq_false_iff_eq.mpr c50
        clear c50
        simp only [Option.some.injEq, Prod.mk.injEq] at H
        obtain ⟨rfl, rfl, rfl, rfl⟩ := H
        go_wp2_with (first | ((with_reducible refine gate_callee (f := 37) rfl ?_); refine goesL_ (some 14) rfl rfl Try.func37 (by kernel_rfl) rfl #[.pointer (some ⟨g, 0, none⟩), .int .i64 10] rfl q53_ ?_; (with_reducible refine (spec_l1Rd_below.calls g s0_0 x1001_2 10 t368 t369 w0 _ ?side1 ?side2 A25.out).mono ?_); (case side1 => exact q101_); (case side2 => exact q99_); rintro e w51 ⟨rfl, hi, hb, hk⟩; refine ⟨_, rfl, ?_⟩; have n0_ := Aside0.mk (KeepBut.blk hk (g' := gb360) (o := .cells #[.int .i64 0, .bool false, .int .i64 0] 85 (0, 0)) q66_ NB360_0.out (by simp)); have n1_ := Aside0.mk (KeepBut.blk hk (g' := gb365) (o := .cells #[.int .i64 t361, .bool t362, .int .i64 t363] 85 (0, 0)) q67_ NB365_0.out (by simp)); have n2_ := Aside0.mk (KeepBut.trans q24_ hk (.inl rfl)); have n3_ := Aside0.mk (hb); have n4_ := Aside0.mk (hi); clear BK360; clear BK365; clear HK; clear HB; clear HI0; have BK360 := n0_; have BK365 := n1_; have HK := n2_; have HB := n3_; have HI0 := n4_; clear n0_ n1_ n2_ n3_ n4_; (try clear hb); (try clear hk); (try clear hi); have hnb52 := NB360_365.out; have hnc52 := NB365_360.out; have hnb53 := NB360_0.out; have hnc53 := NB0_360.out; have hcz54_0 : w51.cell? ⟨gb360, 0, none⟩ = some (.int .i64 0) := (blk_cell BK360.out 0).trans rfl; have hcz54_1 : w51.cell? ⟨gb360, 1, none⟩ = some (.bool false) := (blk_cell BK360.out 1).trans rfl; have hcz54_2 : w51.cell? ⟨gb360, 2, none⟩ = some (.int .i64 0) := (blk_cell BK360.out 2).trans rfl; have hfz54_0 := blk_frozen BK360.out 0; have hfz54_1 := blk_frozen BK360.out 1; have hfz54_2 := blk_frozen BK360.out 2))
        refine bodyPost_ret (results_cell_row rfl _ _ gb360 85 #[.int .i64 224, .bool false, .int .i64 1] (0, 0) _ rfl (by (with_reducible repeat (first | refine blk_drewN ?_ _ | refine blk_drew ?_ | refine blk_alloc ?_ _)); refine blk_put (cs := #[.int .i64 224, .bool false, .int .i64 0]) ?_ 2 _ rfl; (with_reducible repeat (first | refine blk_drewN ?_ _ | refine blk_drew ?_ | refine blk_alloc ?_ _)); refine blk_put (cs := #[.int .i64 224, .bool false, .int .i64 0]) ?_ 1 _ rfl; (with_reducible repeat (first | refine blk_drewN ?_ _ | refine blk_drew ?_ | refine blk_alloc ?_ _)); refine blk_put (cs := #[.int .i64 0, .bool false, .int .i64 0]) ?_ 0 _ rfl; (with_reducible repeat (first | refine blk_drewN ?_ _ | refine blk_drew ?_ | refine blk_alloc ?_ _)); exact BK360.out) Try.underlying85 rfl (by kernel_rfl)) rfl ?_
        exact ⟨q55_, q22_, q18_, q24_⟩
       ·rw [if_neg c50] at H
        have c50b0 : (t368 == 3) = false := beq_eq_false_iff_ne.mpr c50
        have c50b1 : (t368 != 3) = true := bne_iff_ne.mpr c50
        by_cases c55 : t368 = 4
        ·rw [if_pos c55] at H
         have c55b0 : (t368 == 4) = true := beq_iff_eq.mpr c55
         have c55b1 : (t368 != 4) = false := bne_eq_false_iff_eq.mpr c55
         clear c55
         obtain ⟨y378, hy378⟩ : ∃ y_ : List Int, y_ = (([49152, 65281, 130, 10, 300, 40961] : List Int)) := ⟨_, rfl⟩
         replace H : ((spec_l1Rd_below.f s0_0 t369 6).bind fun bt381 => (if 0 ≤ bt381.1 then (if bt381.1 < (y378.length : Int) then (some (234, false, rd y378 bt381.1, bt381.2)) else (none)) else (none))) = some (r1, r2, r3, r4) := by first | (rw [hy378]; with_reducible exact H) | (have H2_ := (Option.bind_some _ _).symm.trans H; rw [hy378]; with_reducible exact H2_) | (have H2_ := (Option.bind_some _ _).symm.trans H; with_reducible exact H2_) | with_reducible exact H | (rw [hy378]; exact H) | exact H
         have Ny378 := Aside0.mk hy378
         clear hy378
         replace H := Option.bind_eq_some_iff.mp H
         obtain ⟨⟨t381, t382⟩, A560, H⟩ := H
         replace H : (if 0 ≤ t381 then (if t381 < (y378.length : Int) then (some (234, false, rd y378 t381, t382)) else (none)) else (none)) = some (r1, r2, r3, r4) := H
         have A56 := Aside0.mk A560
         clear A560
         by_cases c57 : 0 ≤ t381
         ·rw [if_pos c57] at H
          have c57b0 : decide (0 ≤ t381) = true := decide_eq_true c57
          clear c57
          by_cases c58 : t381 < (y378.length : Int)
          ·rw [if_pos c58] at H
           have c58b0 : decide (t381 < (y378.length : Int)) = true := decide_eq_true c58
           clear c58
           simp only [Option.some.injEq, Prod.mk.injEq] at H
           obtain ⟨rfl, rfl, rfl, rfl⟩ := H
           go_wp2_with (first | ((with_reducible refine gate_callee (f := 37) rfl ?_); refine goesL_ (some 14) rfl rfl Try.func37 (by kernel_rfl) rfl #[.pointer (some ⟨g, 0, none⟩), .int .i64 10] rfl q53_ ?_; (with_reducible refine (spec_l1Rd_below.calls g s0_0 x1001_2 10 t368 t369 w0 _ ?side1 ?side2 A25.out).mono ?_); (case side1 => exact q101_); (case side2 => exact q99_); rintro e w59 ⟨rfl, hi, hb, hk⟩; refine ⟨_, rfl, ?_⟩; have n0_ := Aside0.mk (KeepBut.blk hk (g' := gb360) (o := .cells #[.int .i64 0, .bool false, .int .i64 0] 85 (0, 0)) q66_ NB360_0.out (by simp)); have n1_ := Aside0.mk (KeepBut.blk hk (g' := gb365) (o := .cells #[.int .i64 t361, .bool t362, .int .i64 t363] 85 (0, 0)) q67_ NB365_0.out (by simp)); have n2_ := Aside0.mk (KeepBut.trans q24_ hk (.inl rfl)); have n3_ := Aside0.mk (hb); have n4_ := Aside0.mk (hi); clear BK360; clear BK365; clear HK; clear HB; clear HI0; have BK360 := n0_; have BK365 := n1_; have HK := n2_; have HB := n3_; have HI0 := n4_; clear n0_ n1_ n2_ n3_ n4_; (try clear hb); (try clear hk); (try clear hi)) | ((with_reducible refine gate_dst (N := 36) rfl ?_); refine Kd.R_lit (Kd.int .i64) _ 2 ?hg (N := 36) ?hd (xs := ([49152, 65281, 130, 10, 300, 40961] : List Int)) (inner := [.int .i64 49152, .int .i64 65281, .int .i64 130, .int .i64 10, .int .i64 300, .int .i64 40961]) (ok := fun _ => True) (okp := fun _ => True) ?hr ?hp (fun _ hk => hk) trivial (Below.refl _ _) (Nat.le_refl _) (by simp) ?_; (case hd => rfl); (case hg => rfl); (case hr => exact q109_); (case hp => exact (Reps.one (show Kd.M (Kd.int .i64) _ _ _ 49152 [.int .i64 49152] from rfl) (Reps.one (show Kd.M (Kd.int .i64) _ _ _ 65281 [.int .i64 65281] from rfl) (Reps.one (show Kd.M (Kd.int .i64) _ _ _ 130 [.int .i64 130] from rfl) (Reps.one (show Kd.M (Kd.int .i64) _ _ _ 10 [.int .i64 10] from rfl) (Reps.one (show Kd.M (Kd.int .i64) _ _ _ 300 [.int .i64 300] from rfl) (Reps.one (show Kd.M (Kd.int .i64) _ _ _ 40961 [.int .i64 40961] from rfl) (Reps.none _ _)))))))); intro v379 w60 ho61 hb hg_ hnew_; clear hg_ hnew_; (first | rw [← Ny378.out] at ho61 | (simp only [Int.reduceToNat] at ho61; rw [← Ny378.out] at ho61)); have n0_ := Aside0.mk (Kd.R_lower ho61 (keep_size (w := w) (g := g) (row := none) q24_)); have n1_ := Aside0.mk (blk_below (g := gb360) (o := .cells #[.int .i64 0, .bool false, .int .i64 0] 85 (0, 0)) q66_ hb); have n2_ := Aside0.mk (blk_below (g := gb365) (o := .cells #[.int .i64 t361, .bool t362, .int .i64 t363] 85 (0, 0)) q67_ hb); have n3_ := Aside0.mk (IsS78.below q22_ hb); have n4_ := Aside0.mk (KeepBut.trans q24_ (KeepBut.of_below hb g none) (.inl rfl)); have n5_ := Aside0.mk (below_step q18_ hb); clear BK360; clear BK365; clear HI0; clear HK; clear HB; have HO380 := n0_; have BK360 := n1_; have BK365 := n2_; have HI0 := n3_; have HK := n4_; have HB := n5_; clear n0_ n1_ n2_ n3_ n4_ n5_; clear hb ho61) | ((with_reducible refine gate_callee (f := 37) rfl ?_); refine goesL_ (some 38) rfl rfl Try.func37 (by kernel_rfl) rfl #[.pointer (some ⟨g, 0, none⟩), .int .i64 6] rfl q53_ ?_; (with_reducible refine (spec_l1Rd_below.calls g s0_0 t369 6 t381 t382 w0 _ ?side1 ?side2 A56.out).mono ?_); (case side1 => exact q101_); (case side2 => exact q99_); rintro e w62 ⟨rfl, hi, hb, hk⟩; refine ⟨_, rfl, ?_⟩; have n0_ := Aside0.mk (KeepBut.blk hk (g' := gb360) (o := .cells #[.int .i64 0, .bool false, .int .i64 0] 85 (0, 0)) q66_ NB360_0.out (by simp)); have n1_ := Aside0.mk (KeepBut.blk hk (g' := gb365) (o := .cells #[.int .i64 t361, .bool t362, .int .i64 t363] 85 (0, 0)) q67_ NB365_0.out (by simp)); have n2_ := Aside0.mk (Kd.R_mono (Kd.R_keep (IsS78.apart (show IsS78 w0 _ g s0_0 t369 from by repeat (first | (with_reducible first | exact HI0.out | apply IsS78.alloc | apply IsS78.drewN | apply IsS78.drew | apply IsS78.set_1 | refine IsS78.far ?_ NB0_360.out _ | refine IsS78.far ?_ NB0_365.out _) | exact HI0.out)) (by (with_reducible repeat (first | apply Kd.R_alloc | apply Kd.R_drewN | apply Kd.R_drew)); exact HO380.out) (by decide)) hk (fun _ h => h.2)) (fun _ h => h.1)); have n3_ := Aside0.mk (KeepBut.trans q24_ hk (.inl rfl)); have n4_ := Aside0.mk (hb); have n5_ := Aside0.mk (hi); clear BK360; clear BK365; clear HO380; clear HK; clear HB; clear HI0; have BK360 := n0_; have BK365 := n1_; have HO380 := n2_; have HK := n3_; have HB := n4_; have HI0 := n5_; clear n0_ n1_ n2_ n3_ n4_ n5_; (try clear hb); (try clear hk); (try clear hi); obtain ⟨Ao63, co63, eo63⟩ := Kd.R_slice HO380.out; subst eo63; have p383 : 0 ≤ (t381 : Int) := of_decide_eq_true q82_; have q383 : t381 < (y378.length : Int) := of_decide_eq_true q82_; obtain ⟨ad383, e383, hx383_0⟩ := Kd.at_int (Kd.R_reads' HO380.out).2.2 t381 p383 q383; cases e383; replace p383 := eq_true p383; replace q383 := eq_true q383; have hnb64 := NB360_365.out; have hnc64 := NB365_360.out; have hnb65 := NB360_0.out; have hnc65 := NB0_360.out; have hcz66_0 : w62.cell? ⟨gb360, 0, none⟩ = some (.int .i64 0) := (blk_cell BK360.out 0).trans rfl; have hcz66_1 : w62.cell? ⟨gb360, 1, none⟩ = some (.bool false) := (blk_cell BK360.out 1).trans rfl; have hcz66_2 : w62.cell? ⟨gb360, 2, none⟩ = some (.int .i64 0) := (blk_cell BK360.out 2).trans rfl; have hfz66_0 := blk_frozen BK360.out 0; have hfz66_1 := blk_frozen BK360.out 1; have hfz66_2 := blk_frozen BK360.out 2))
           refine bodyPost_ret (results_cell_row rfl _ _ gb360 85 #[.int .i64 234, .bool false, .int .i64 (rd y378 t381)] (0, 0) _ rfl (by (with_reducible repeat (first | refine blk_drewN ?_ _ | refine blk_drew ?_ | refine blk_alloc ?_ _)); refine blk_put (cs := #[.int .i64 234, .bool false, .int .i64 0]) ?_ 2 _ rfl; (with_reducible repeat (first | refine blk_drewN ?_ _ | refine blk_drew ?_ | refine blk_alloc ?_ _)); refine blk_put (cs := #[.int .i64 234, .bool false, .int .i64 0]) ?_ 1 _ rfl; (with_reducible repeat (first | refine blk_drewN ?_ _ | refine blk_drew ?_ | refine blk_alloc ?_ _)); refine blk_put (cs := #[.int .i64 0, .bool false, .int .i64 0]) ?_ 0 _ rfl; (with_reducible repeat (first | refine blk_drewN ?_ _ | refine blk_drew ?_ | refine blk_alloc ?_ _)); exact BK360.out) Try.underlying85 rfl (by kernel_rfl)) rfl ?_
           exact ⟨q55_, q22_, q18_, q24_⟩
          ·rw [if_neg c58] at H
           exact absurd H (by simp)
         ·rw [if_neg c57] at H
          exact absurd H (by simp)
        ·rw [if_neg c55] at H
         have c55b0 : (t368 == 4) = false := beq_eq_false_iff_ne.mpr c55
         have c55b1 : (t368 != 4) = true := bne_iff_ne.mpr c55
         by_cases c67 : t361 ≥ 192
         ·rw [if_pos c67] at H
          have c67b0 : decide (192 ≤ t361) = true := decide_eq_true c67
          clear c67
          by_cases c68 : t363 > 511
          ·rw [if_pos c68] at H
           have c68b0 : decide (511 < t363) = true := decide_eq_true c68
           clear c68
           simp only [Option.some.injEq, Prod.mk.injEq] at H
           obtain ⟨rfl, rfl, rfl, rfl⟩ := H
           go_wp2_with (first | ((with_reducible refine gate_callee (f := 37) rfl ?_); refine goesL_ (some 14) rfl rfl Try.func37 (by kernel_rfl) rfl #[.pointer (some ⟨g, 0, none⟩), .int .i64 10] rfl q53_ ?_; (with_reducible refine (spec_l1Rd_below.calls g s0_0 x1001_2 10 t368 t369 w0 _ ?side1 ?side2 A25.out).mono ?_); (case side1 => exact q101_); (case side2 => exact q99_); rintro e w69 ⟨rfl, hi, hb, hk⟩; refine ⟨_, rfl, ?_⟩; have n0_ := Aside0.mk (KeepBut.blk hk (g' := gb360) (o := .cells #[.int .i64 0, .bool false, .int .i64 0] 85 (0, 0)) q66_ NB360_0.out (by simp)); have n1_ := Aside0.mk (KeepBut.blk hk (g' := gb365) (o := .cells #[.int .i64 t361, .bool t362, .int .i64 t363] 85 (0, 0)) q67_ NB365_0.out (by simp)); have n2_ := Aside0.mk (KeepBut.trans q24_ hk (.inl rfl)); have n3_ := Aside0.mk (hb); have n4_ := Aside0.mk (hi); clear BK360; clear BK365; clear HK; clear HB; clear HI0; have BK360 := n0_; have BK365 := n1_; have HK := n2_; have HB := n3_; have HI0 := n4_; clear n0_ n1_ n2_ n3_ n4_; (try clear hb); (try clear hk); (try clear hi); have hnb70 := NB365_360.out; have hnc70 := NB360_365.out; have hnb71 := NB365_0.out; have hnc71 := NB0_365.out; have hcz72_0 : w69.cell? ⟨gb365, 0, none⟩ = some (.int .i64 t361) := (blk_cell BK365.out 0).trans rfl; have hcz72_1 : w69.cell? ⟨gb365, 1, none⟩ = some (.bool t362) := (blk_cell BK365.out 1).trans rfl; have hcz72_2 : w69.cell? ⟨gb365, 2, none⟩ = some (.int .i64 t363) := (blk_cell BK365.out 2).trans rfl; have hfz72_0 := blk_frozen BK365.out 0; have hfz72_1 := blk_frozen BK365.out 1; have hfz72_2 := blk_frozen BK365.out 2; have hnb73 := NB360_0.out; have hnc73 := NB0_360.out; have hcz74_0 : w69.cell? ⟨gb360, 0, none⟩ = some (.int .i64 0) := (blk_cell BK360.out 0).trans rfl; have hcz74_1 : w69.cell? ⟨gb360, 1, none⟩ = some (.bool false) := (blk_cell BK360.out 1).trans rfl; have hcz74_2 : w69.cell? ⟨gb360, 2, none⟩ = some (.int .i64 0) := (blk_cell BK360.out 2).trans rfl; have hfz74_0 := blk_frozen BK360.out 0; have hfz74_1 := blk_frozen BK360.out 1; have hfz74_2 := blk_frozen BK360.out 2))
           refine bodyPost_ret (results_cell_row rfl _ _ gb360 85 #[.int .i64 t361, .bool t362, .int .i64 (Int.tmod t363 40)] (0, 0) _ rfl (by (with_reducible repeat (first | refine blk_drewN ?_ _ | refine blk_drew ?_ | refine blk_alloc ?_ _)); refine blk_put (cs := #[.int .i64 t361, .bool t362, .int .i64 0]) ?_ 2 _ rfl; (with_reducible repeat (first | refine blk_drewN ?_ _ | refine blk_drew ?_ | refine blk_alloc ?_ _)); refine blk_put (cs := #[.int .i64 t361, .bool false, .int .i64 0]) ?_ 1 _ rfl; (with_reducible repeat (first | refine blk_drewN ?_ _ | refine blk_drew ?_ | refine blk_alloc ?_ _)); refine blk_put (cs := #[.int .i64 0, .bool false, .int .i64 0]) ?_ 0 _ rfl; (with_reducible repeat (first | refine blk_drewN ?_ _ | refine blk_drew ?_ | refine blk_alloc ?_ _)); refine blk_far ?_ NB360_365.out _; (with_reducible repeat (first | refine blk_drewN ?_ _ | refine blk_drew ?_ | refine blk_alloc ?_ _)); exact BK360.out) Try.underlying85 rfl (by kernel_rfl)) rfl ?_
           exact ⟨q55_, q22_, q18_, q24_⟩
          ·rw [if_neg c68] at H
           have c68b0 : decide (511 < t363) = false := decide_eq_false c68
           clear c68
           simp only [Option.some.injEq, Prod.mk.injEq] at H
           obtain ⟨rfl, rfl, rfl, rfl⟩ := H
           go_wp2_with (first | ((with_reducible refine gate_callee (f := 37) rfl ?_); refine goesL_ (some 14) rfl rfl Try.func37 (by kernel_rfl) rfl #[.pointer (some ⟨g, 0, none⟩), .int .i64 10] rfl q53_ ?_; (with_reducible refine (spec_l1Rd_below.calls g s0_0 x1001_2 10 t368 t369 w0 _ ?side1 ?side2 A25.out).mono ?_); (case side1 => exact q101_); (case side2 => exact q99_); rintro e w75 ⟨rfl, hi, hb, hk⟩; refine ⟨_, rfl, ?_⟩; have n0_ := Aside0.mk (KeepBut.blk hk (g' := gb360) (o := .cells #[.int .i64 0, .bool false, .int .i64 0] 85 (0, 0)) q66_ NB360_0.out (by simp)); have n1_ := Aside0.mk (KeepBut.blk hk (g' := gb365) (o := .cells #[.int .i64 t361, .bool t362, .int .i64 t363] 85 (0, 0)) q67_ NB365_0.out (by simp)); have n2_ := Aside0.mk (KeepBut.trans q24_ hk (.inl rfl)); have n3_ := Aside0.mk (hb); have n4_ := Aside0.mk (hi); clear BK360; clear BK365; clear HK; clear HB; clear HI0; have BK360 := n0_; have BK365 := n1_; have HK := n2_; have HB := n3_; have HI0 := n4_; clear n0_ n1_ n2_ n3_ n4_; (try clear hb); (try clear hk); (try clear hi); have hnb76 := NB365_360.out; have hnc76 := NB360_365.out; have hnb77 := NB365_0.out; have hnc77 := NB0_365.out; have hcz78_0 : w75.cell? ⟨gb365, 0, none⟩ = some (.int .i64 t361) := (blk_cell BK365.out 0).trans rfl; have hcz78_1 : w75.cell? ⟨gb365, 1, none⟩ = some (.bool t362) := (blk_cell BK365.out 1).trans rfl; have hcz78_2 : w75.cell? ⟨gb365, 2, none⟩ = some (.int .i64 t363) := (blk_cell BK365.out 2).trans rfl; have hfz78_0 := blk_frozen BK365.out 0; have hfz78_1 := blk_frozen BK365.out 1; have hfz78_2 := blk_frozen BK365.out 2; have hnb79 := NB360_0.out; have hnc79 := NB0_360.out; have hcz80_0 : w75.cell? ⟨gb360, 0, none⟩ = some (.int .i64 0) := (blk_cell BK360.out 0).trans rfl; have hcz80_1 : w75.cell? ⟨gb360, 1, none⟩ = some (.bool false) := (blk_cell BK360.out 1).trans rfl; have hcz80_2 : w75.cell? ⟨gb360, 2, none⟩ = some (.int .i64 0) := (blk_cell BK360.out 2).trans rfl; have hfz80_0 := blk_frozen BK360.out 0; have hfz80_1 := blk_frozen BK360.out 1; have hfz80_2 := blk_frozen BK360.out 2))
           refine bodyPost_ret (results_cell_row rfl _ _ gb360 85 #[.int .i64 t361, .bool t362, .int .i64 t363] (0, 0) _ rfl q7_ Try.underlying85 rfl (by kernel_rfl)) rfl ?_
           exact ⟨q55_, q22_, q18_, q24_⟩
         ·rw [if_neg c67] at H
          have c67b0 : decide (192 ≤ t361) = false := decide_eq_false c67
          clear c67
          simp only [Option.some.injEq, Prod.mk.injEq] at H
          obtain ⟨rfl, rfl, rfl, rfl⟩ := H
          go_wp2_with (first | ((with_reducible refine gate_callee (f := 37) rfl ?_); refine goesL_ (some 14) rfl rfl Try.func37 (by kernel_rfl) rfl #[.pointer (some ⟨g, 0, none⟩), .int .i64 10] rfl q53_ ?_; (with_reducible refine (spec_l1Rd_below.calls g s0_0 x1001_2 10 t368 t369 w0 _ ?side1 ?side2 A25.out).mono ?_); (case side1 => exact q101_); (case side2 => exact q99_); rintro e w81 ⟨rfl, hi, hb, hk⟩; refine ⟨_, rfl, ?_⟩; have n0_ := Aside0.mk (KeepBut.blk hk (g' := gb360) (o := .cells #[.int .i64 0, .bool false, .int .i64 0] 85 (0, 0)) q66_ NB360_0.out (by simp)); have n1_ := Aside0.mk (KeepBut.blk hk (g' := gb365) (o := .cells #[.int .i64 t361, .bool t362, .int .i64 t363] 85 (0, 0)) q67_ NB365_0.out (by simp)); have n2_ := Aside0.mk (KeepBut.trans q24_ hk (.inl rfl)); have n3_ := Aside0.mk (hb); have n4_ := Aside0.mk (hi); clear BK360; clear BK365; clear HK; clear HB; clear HI0; have BK360 := n0_; have BK365 := n1_; have HK := n2_; have HB := n3_; have HI0 := n4_; clear n0_ n1_ n2_ n3_ n4_; (try clear hb); (try clear hk); (try clear hi); have hnb82 := NB365_360.out; have hnc82 := NB360_365.out; have hnb83 := NB365_0.out; have hnc83 := NB0_365.out; have hcz84_0 : w81.cell? ⟨gb365, 0, none⟩ = some (.int .i64 t361) := (blk_cell BK365.out 0).trans rfl; have hcz84_1 : w81.cell? ⟨gb365, 1, none⟩ = some (.bool t362) := (blk_cell BK365.out 1).trans rfl; have hcz84_2 : w81.cell? ⟨gb365, 2, none⟩ = some (.int .i64 t363) := (blk_cell BK365.out 2).trans rfl; have hfz84_0 := blk_frozen BK365.out 0; have hfz84_1 := blk_frozen BK365.out 1; have hfz84_2 := blk_frozen BK365.out 2; have hnb85 := NB360_0.out; have hnc85 := NB0_360.out; have hcz86_0 : w81.cell? ⟨gb360, 0, none⟩ = some (.int .i64 0) := (blk_cell BK360.out 0).trans rfl; have hcz86_1 : w81.cell? ⟨gb360, 1, none⟩ = some (.bool false) := (blk_cell BK360.out 1).trans rfl; have hcz86_2 : w81.cell? ⟨gb360, 2, none⟩ = some (.int .i64 0) := (blk_cell BK360.out 2).trans rfl; have hfz86_0 := blk_frozen BK360.out 0; have hfz86_1 := blk_frozen BK360.out 1; have hfz86_2 := blk_frozen BK360.out 2))
          refine bodyPost_ret (results_cell_row rfl _ _ gb360 85 #[.int .i64 t361, .bool t362, .int .i64 t363] (0, 0) _ rfl q7_ Try.underlying85 rfl (by kernel_rfl)) rfl ?_
          exact ⟨q55_, q22_, q18_, q24_⟩
mutual
def spec_l1Rd_rom.l0 : Nat → Int → List Int → Int → List Int → Int → Option (ByteArray × Int)
 | 0, _, _, _, _, _ => none
 | k + 1, x3, x4, x5, x1000, x1001 => if x5 < x3 then ((spec_l1Rd_below.f x1000 x1001 16).bind fun bt395 => (spec_l1Rd_rom.l1 k x3 x4 x5 (wrap64 (x5 * 256)) (wrap64 (1 + bt395.1)) x1000 bt395.2)) else ((spec_l1Rd_once.f x1000 x1001 30).bind fun bt389 => (if bt389.1 = true then (if 1 ≤ (x4.length : Int) then (some (strOfNums (x4.drop 1), bt389.2)) else (none)) else (some (strOfNums x4, bt389.2))))
def spec_l1Rd_rom.l1 : Nat → Int → List Int → Int → Int → Int → List Int → Int → Option (ByteArray × Int)
 | 0, _, _, _, _, _, _, _ => none
 | k + 1, x3, x4, x5, x6, x7, x1000, x1001 => if x7 > 0 then ((spec_l1Rd_plain.f k x1000 x1001).bind fun bt397 => ((spec_InsBytes.f k bt397.1 bt397.2.1 bt397.2.2.1).bind fun t401 => (if 0 ≤ x6 then (if x6 ≤ (wrap64 ((wrap64 (x5 + 1)) * 256)) then (if (wrap64 ((wrap64 (x5 + 1)) * 256)) ≤ (x4.length : Int) then (spec_l1Rd_rom.l1 k x3 (cpy x4 (x6 : Int).toNat (((wrap64 ((wrap64 (x5 + 1)) * 256)) : Int).toNat - (x6 : Int).toNat) (bytesOf t401)) x5 (wrap64 (x6 + (t401.size : Int))) (wrap64 (x7 - 1)) x1000 bt397.2.2.2) else (none)) else (none)) else (none)))) else (spec_l1Rd_rom.l0 k x3 x4 (wrap64 (x5 + 1)) x1000 x1001)
end
def spec_l1Rd_rom.f (k : Nat) (s0_0 : List Int) (s0_1 : Int) : Option (ByteArray × Int) := (spec_l1Rd_below.f s0_0 s0_1 3).bind fun bt384 => (if 0 ≤ (wrap64 ((wrap64 (2 + bt384.1)) * 256)) then (if (wrap64 ((wrap64 (2 + bt384.1)) * 256) : Int).toNat ≤ 281474976710656 then (spec_l1Rd_rom.l0 k (wrap64 (2 + bt384.1)) (List.replicate (wrap64 ((wrap64 (2 + bt384.1)) * 256) : Int).toNat 0) 0 s0_0 bt384.2) else (none)) else (none))
theorem spec_l1Rd_rom.mono_l : ∀ k, (∀ y0 y1 y2 y3 y4, LeO (spec_l1Rd_rom.l0 k y0 y1 y2 y3 y4) (spec_l1Rd_rom.l0 (k + 1) y0 y1 y2 y3 y4)) ∧ (∀ y0 y1 y2 y3 y4 y5 y6, LeO (spec_l1Rd_rom.l1 k y0 y1 y2 y3 y4 y5 y6) (spec_l1Rd_rom.l1 (k + 1) y0 y1 y2 y3 y4 y5 y6))
 | 0 => ⟨fun _ _ _ _ _ r h => by simp [spec_l1Rd_rom.l0] at h, fun _ _ _ _ _ _ _ r h => by simp [spec_l1Rd_rom.l1] at h⟩
 | k + 1 => by
  obtain ⟨ih0, ih1⟩ := spec_l1Rd_rom.mono_l k
  refine ⟨?_, ?_⟩
  ·intro y0 y1 y2 y3 y4
   unfold spec_l1Rd_rom.l0
   repeat' first
   | (with_reducible first | exact ih0 _ _ _ _ _ | exact ih1 _ _ _ _ _ _ _ | exact spec_InsBytes.mono _ _ _ _ | exact spec_l1Rd_plain.mono _ _ _ | exact LeO.refl _ | exact LeO.none _ | refine LeO.ite ?_ ?_ | refine LeO.bind ?_ (fun _ => ?_))
   | exact ih0 _ _ _ _ _
   | exact ih1 _ _ _ _ _ _ _
   | exact spec_InsBytes.mono _ _ _ _
   | exact spec_l1Rd_plain.mono _ _ _
   | exact LeO.none _
   | refine LeO.ite ?_ ?_
   | refine LeO.bind ?_ (fun _ => ?_)
  ·intro y0 y1 y2 y3 y4 y5 y6
   unfold spec_l1Rd_rom.l1
   repeat' first
   | (with_reducible first | exact ih0 _ _ _ _ _ | exact ih1 _ _ _ _ _ _ _ | exact spec_InsBytes.mono _ _ _ _ | exact spec_l1Rd_plain.mono _ _ _ | exact LeO.refl _ | exact LeO.none _ | refine LeO.ite ?_ ?_ | refine LeO.bind ?_ (fun _ => ?_))
   | exact ih0 _ _ _ _ _
   | exact ih1 _ _ _ _ _ _ _
   | exact spec_InsBytes.mono _ _ _ _
   | exact spec_l1Rd_plain.mono _ _ _
   | exact LeO.none _
   | refine LeO.ite ?_ ?_
   | refine LeO.bind ?_ (fun _ => ?_)
theorem spec_l1Rd_rom.mono : ∀ a0 a1 k, LeO (spec_l1Rd_rom.f k a0 a1) (spec_l1Rd_rom.f (k + 1) a0 a1) := by
 intro a0 a1 k
 obtain ⟨ih0, ih1⟩ := spec_l1Rd_rom.mono_l k
 unfold spec_l1Rd_rom.f
 repeat' first
   | (with_reducible first | exact ih0 _ _ _ _ _ | exact ih1 _ _ _ _ _ _ _ | exact spec_InsBytes.mono _ _ _ _ | exact spec_l1Rd_plain.mono _ _ _ | exact LeO.refl _ | exact LeO.none _ | refine LeO.ite ?_ ?_ | refine LeO.bind ?_ (fun _ => ?_))
   | exact ih0 _ _ _ _ _
   | exact ih1 _ _ _ _ _ _ _
   | exact spec_InsBytes.mono _ _ _ _
   | exact spec_l1Rd_plain.mono _ _ _
   | exact LeO.none _
   | refine LeO.ite ?_ ?_
   | refine LeO.bind ?_ (fun _ => ?_)
theorem spec_l1Rd_rom.calls (k : Nat) (g : Nat) (s0_0 : List Int) (s0_1 : Int) (r1 : ByteArray) (r2 : Int) (w0 w : World) (hI : IsS78 w0 w g s0_0 s0_1) (hB : Below w0.heap.size w0 w) (h : spec_l1Rd_rom.f k s0_0 s0_1 = some (r1, r2)) :
  Calls Try.prog 69 #[.pointer (some ⟨g, 0, none⟩)] w fun e w' => e = .returned (.string r1) ∧ IsS78 w0 w' g s0_0 r2 ∧ Below w0.heap.size w0 w' ∧ KeepBut w w' g none := by
 have HI0 := Aside0.mk hI
 have HK := Aside0.mk (KeepBut.refl w g none)
 have HL := Aside0.mk hB.size
 clear hI
 have HW0 := Aside0.mk hB.size
 have HB := Aside0.mk hB
 clear hB
 have H : ((spec_l1Rd_below.f s0_0 s0_1 3).bind fun bt384 => (if 0 ≤ (wrap64 ((wrap64 (2 + bt384.1)) * 256)) then (if (wrap64 ((wrap64 (2 + bt384.1)) * 256) : Int).toNat ≤ 281474976710656 then (spec_l1Rd_rom.l0 k (wrap64 (2 + bt384.1)) (List.replicate (wrap64 ((wrap64 (2 + bt384.1)) * 256) : Int).toNat 0) 0 s0_0 bt384.2) else (none)) else (none))) = some (r1, r2) := h
 clear h
 replace H := Option.bind_eq_some_iff.mp H
 obtain ⟨⟨t384, t385⟩, A20, H⟩ := H
 replace H : (if 0 ≤ (wrap64 ((wrap64 (2 + t384)) * 256)) then (if (wrap64 ((wrap64 (2 + t384)) * 256) : Int).toNat ≤ 281474976710656 then (spec_l1Rd_rom.l0 k (wrap64 (2 + t384)) (List.replicate (wrap64 ((wrap64 (2 + t384)) * 256) : Int).toNat 0) 0 s0_0 t385) else (none)) else (none)) = some (r1, r2) := H
 have A2 := Aside0.mk A20
 clear A20
 obtain ⟨ji3, hji3⟩ : ∃ j_ : Int, (wrap64 ((wrap64 (2 + t384)) * 256)) = j_ := ⟨_, rfl⟩
 replace H : (if 0 ≤ (ji3) then (if (ji3 : Int).toNat ≤ 281474976710656 then (spec_l1Rd_rom.l0 k (wrap64 (2 + t384)) (List.replicate (ji3 : Int).toNat 0) 0 s0_0 t385) else (none)) else (none)) = some (r1, r2) := by first | (rw [hji3] at H; exact H) | (simp only [hji3] at H ⊢; exact H)
 (try rw [hji3] at A2)
 have hji3w : (IntKind.i64.wrap ((wrap64 (2 + t384)) * 256)) = ji3 := (i64_w _).trans hji3
 by_cases c4 : 0 ≤ (ji3)
 ·rw [if_pos c4] at H
  have c4b0 := eq_true c4
  have c4b1 : decide (0 ≤ (ji3)) = true := decide_eq_true c4
  clear c4
  by_cases c5 : (ji3 : Int).toNat ≤ 281474976710656
  ·rw [if_pos c5] at H
   have c5b0 := eq_true c5
   have c5b1 : decide ((ji3 : Int).toNat ≤ 281474976710656) = true := decide_eq_true c5
   clear c5
   obtain ⟨y386, hy386⟩ : ∃ y_ : List Int, y_ = (List.replicate (ji3 : Int).toNat 0) := ⟨_, rfl⟩
   replace H : (spec_l1Rd_rom.l0 k (wrap64 (2 + t384)) y386 0 s0_0 t385) = some (r1, r2) := by first | (rw [hy386]; with_reducible exact H) | (have H2_ := (Option.bind_some _ _).symm.trans H; rw [hy386]; with_reducible exact H2_) | (have H2_ := (Option.bind_some _ _).symm.trans H; with_reducible exact H2_) | with_reducible exact H | (rw [hy386]; exact H) | exact H
   have Ny386 := Aside0.mk hy386
   clear hy386
   have H' := Aside0.mk H
   clear H
   go_enter Try.func69, Try.ntmps69
   go_wp2_with (first | ((with_reducible refine gate_callee (f := 37) rfl ?_); refine goesL_ (some 10) rfl rfl Try.func37 (by kernel_rfl) rfl #[.pointer (some ⟨g, 0, none⟩), .int .i64 3] rfl q53_ ?_; (with_reducible refine (spec_l1Rd_below.calls g s0_0 s0_1 3 t384 t385 w0 _ ?side1 ?side2 A2.out).mono ?_); (case side1 => exact q108_); (case side2 => exact q105_); rintro e w6 ⟨rfl, hi, hb, hk⟩; refine ⟨_, rfl, ?_⟩; have n0_ := Aside0.mk (KeepBut.trans q52_ hk (.inl rfl)); have n1_ := Aside0.mk (hb); have n2_ := Aside0.mk (hi); clear HK; clear HB; clear HI0; have HK := n0_; have HB := n1_; have HI0 := n2_; clear n0_ n1_ n2_; (try clear hb); (try clear hk); (try clear hi)) | ((with_reducible refine gate_dst (N := 14) rfl ?_); refine Kd.R_make (Kd.int .u8) _ 5 rfl (N := 14) rfl 25 _ _ rfl ji3 rfl rfl Try.underlying25 (.int .u8 0) 1 info5 rfl (by decide) (by omega) 0 (ok := fun _ => True) (okp := fun _ => True) rfl (fun _ hk => hk) trivial (of_decide_eq_true q82_) (Nat.le_trans (Nat.mul_le_mul_right _ (of_decide_eq_true q82_ : ji3.toNat ≤ 281474976710656)) (by omega)) (Below.refl _ _) (Nat.le_refl _) ?_; intro v387 w7 ho8 hb hg_ hnew_; clear hg_ hnew_; (first | rw [← Ny386.out] at ho8 | (simp only [Int.reduceToNat] at ho8; rw [← Ny386.out] at ho8)); have n0_ := Aside0.mk (Kd.R_lower ho8 (keep_size (w := w) (g := g) (row := none) q52_)); have n1_ := Aside0.mk (IsS78.below q51_ hb); have n2_ := Aside0.mk (KeepBut.trans q52_ (KeepBut.of_below hb g none) (.inl rfl)); have n3_ := Aside0.mk (below_step q37_ hb); clear HI0; clear HK; clear HB; have HO388 := n0_; have HI0 := n1_; have HK := n2_; have HB := n3_; clear n0_ n1_ n2_ n3_; clear hb ho8))
   go_loopg [5] k (fun kq v5 w' => ∃ (x4_1 : List Int) (x5_1 : Int) (x1001_1 : Int), v5 = .int .i64 x5_1 ∧ Aside0 (spec_l1Rd_rom.l0 kq (wrap64 (2 + t384)) x4_1 x5_1 s0_0 x1001_1 = some (r1, r2)) ∧ Aside0 (kq ≤ k) ∧ Aside0 (Kd.R (Kd.int .u8) 5 w' w.heap.size (fun _ => True) v387 x4_1) ∧ Aside0 (IsS78 w0 w' g s0_0 x1001_1) ∧ Aside0 (KeepBut w w' g none) ∧ Aside0 (Below w0.heap.size w0 w'))
   case atStart => exact ⟨(y386), (0), (t385), q74_, q73_, ⟨Nat.le_refl _⟩, ⟨by (with_reducible repeat (first | apply Kd.R_alloc | apply Kd.R_drewN | apply Kd.R_drew)); exact HO388.out⟩, ⟨q51_⟩, ⟨q52_⟩, ⟨q37_⟩⟩
   case round =>
    clear H'
    try clear p2
    try clear c3
    try clear c4
    try clear c4b0
    try clear c4b1
    try clear c5
    try clear c5b0
    try clear c5b1
    try clear c6
    try clear p6
    obtain ⟨x4_1, x5_1, x1001_1, rfl, HA, HK1, HO_4, HI0, HK, HB⟩ := hrel
    cases gk with
    | zero => exact absurd HA.out (by simp [spec_l1Rd_rom.l0])
    | succ k1 =>
     have H := HA.out
     clear HA
     simp only [spec_l1Rd_rom.l0] at H
     by_cases c9 : x5_1 < (wrap64 (2 + t384))
     ·rw [if_pos c9] at H
      have c9b0 : decide (x5_1 < (wrap64 (2 + t384))) = true := decide_eq_true c9
      clear c9
      replace H := Option.bind_eq_some_iff.mp H
      obtain ⟨⟨t395, t396⟩, A100, H⟩ := H
      replace H : (spec_l1Rd_rom.l1 k1 (wrap64 (2 + t384)) x4_1 x5_1 (wrap64 (x5_1 * 256)) (wrap64 (1 + t395)) s0_0 t396) = some (r1, r2) := H
      have A10 := Aside0.mk A100
      clear A100
      have H' := Aside0.mk H
      clear H
      go_wp2_with (first | ((with_reducible refine gate_callee (f := 37) rfl ?_); refine goesL_ (some 23) rfl rfl Try.func37 (by kernel_rfl) rfl #[.pointer (some ⟨g, 0, none⟩), .int .i64 16] rfl q53_ ?_; (with_reducible refine (spec_l1Rd_below.calls g s0_0 x1001_1 16 t395 t396 w0 _ ?side1 ?side2 A10.out).mono ?_); (case side1 => exact q108_); (case side2 => exact q105_); rintro e w11 ⟨rfl, hi, hb, hk⟩; refine ⟨_, rfl, ?_⟩; have n0_ := Aside0.mk (Kd.R_mono (Kd.R_keep (IsS78.apart (show IsS78 w0 _ g s0_0 x1001_1 from by repeat (first | (with_reducible first | exact HI0.out | apply IsS78.alloc | apply IsS78.drewN | apply IsS78.drew | apply IsS78.set_1) | exact HI0.out)) q80_ (by decide)) hk (fun _ h => h.2)) (fun _ h => h.1)); have n1_ := Aside0.mk (KeepBut.trans q52_ hk (.inl rfl)); have n2_ := Aside0.mk (hb); have n3_ := Aside0.mk (hi); clear HO_4; clear HK; clear HB; clear HI0; have HO_4 := n0_; have HK := n1_; have HB := n2_; have HI0 := n3_; clear n0_ n1_ n2_ n3_; (try clear hb); (try clear hk); (try clear hi)))
      go_loopg [6, 7] k1 (fun kq v6 v7 w' => ∃ (x4_2 : List Int) (x6_2 : Int) (x7_2 : Int) (x1001_2 : Int), v6 = .int .i64 x6_2 ∧ v7 = .int .i64 x7_2 ∧ Aside0 (spec_l1Rd_rom.l1 kq (wrap64 (2 + t384)) x4_2 x5_1 x6_2 x7_2 s0_0 x1001_2 = some (r1, r2)) ∧ Aside0 (kq ≤ k1) ∧ Aside0 (Kd.R (Kd.int .u8) 5 w' w.heap.size (fun _ => True) v387 x4_2) ∧ Aside0 (IsS78 w0 w' g s0_0 x1001_2) ∧ Aside0 (KeepBut w w' g none) ∧ Aside0 (Below w0.heap.size w0 w'))
      case atStart => exact ⟨(x4_1), (wrap64 (x5_1 * 256)), (wrap64 (1 + t395)), (t396), q74_, q74_, q73_, ⟨Nat.le_refl _⟩, ⟨q80_⟩, ⟨q51_⟩, ⟨q52_⟩, ⟨q37_⟩⟩
      case round =>
       clear H'
       try clear p2 p2
       try clear c3
       try clear c4
       try clear c4b0
       try clear c4b1
       try clear c5
       try clear c5b0
       try clear c5b1
       try clear c6
       try clear p6 p6
       try clear c9
       try clear c9b0
       obtain ⟨x4_2, x6_2, x7_2, x1001_2, rfl, rfl, HA, HK2, HO_4, HI0, HK, HB⟩ := hrel
       cases gk with
       | zero => exact absurd HA.out (by simp [spec_l1Rd_rom.l1])
       | succ k2 =>
        have H := HA.out
        clear HA
        simp only [spec_l1Rd_rom.l1] at H
        by_cases c12 : x7_2 > 0
        ·rw [if_pos c12] at H
         have c12b0 : decide (0 < x7_2) = true := decide_eq_true c12
         clear c12
         replace H := Option.bind_eq_some_iff.mp H
         obtain ⟨⟨t397, t398, t399, t400⟩, A130, H⟩ := H
         replace H : ((spec_InsBytes.f k2 t397 t398 t399).bind fun t401 => (if 0 ≤ x6_2 then (if x6_2 ≤ (wrap64 ((wrap64 (x5_1 + 1)) * 256)) then (if (wrap64 ((wrap64 (x5_1 + 1)) * 256)) ≤ (x4_2.length : Int) then (spec_l1Rd_rom.l1 k2 (wrap64 (2 + t384)) (cpy x4_2 (x6_2 : Int).toNat (((wrap64 ((wrap64 (x5_1 + 1)) * 256)) : Int).toNat - (x6_2 : Int).toNat) (bytesOf t401)) x5_1 (wrap64 (x6_2 + (t401.size : Int))) (wrap64 (x7_2 - 1)) s0_0 t400) else (none)) else (none)) else (none))) = some (r1, r2) := H
         have A13 := Aside0.mk A130
         clear A130
         replace H := Option.bind_eq_some_iff.mp H
         obtain ⟨t401, A140, H⟩ := H
         have A14 := Aside0.mk A140
         clear A140
         by_cases c15 : 0 ≤ x6_2
         ·rw [if_pos c15] at H
          have c15b0 := eq_true c15
          have c15b1 : decide (0 ≤ x6_2) = true := decide_eq_true c15
          clear c15
          by_cases c16 : x6_2 ≤ (wrap64 ((wrap64 (x5_1 + 1)) * 256))
          ·rw [if_pos c16] at H
           have c16b0 := eq_true c16
           have c16b1 : decide (x6_2 ≤ (wrap64 ((wrap64 (x5_1 + 1)) * 256))) = true := decide_eq_true c16
           by_cases c17 : (wrap64 ((wrap64 (x5_1 + 1)) * 256)) ≤ (x4_2.length : Int)
           ·rw [if_pos c17] at H
            have c17b0 := eq_true c17
            have c17b1 : decide ((wrap64 ((wrap64 (x5_1 + 1)) * 256)) ≤ (x4_2.length : Int)) = true := decide_eq_true c17
            obtain ⟨y402, hy402⟩ : ∃ y_ : List Int, y_ = ((x4_2.take ((wrap64 ((wrap64 (x5_1 + 1)) * 256)) : Int).toNat).drop (x6_2 : Int).toNat) := ⟨_, rfl⟩
            replace H : (spec_l1Rd_rom.l1 k2 (wrap64 (2 + t384)) (cpy x4_2 (x6_2 : Int).toNat (((wrap64 ((wrap64 (x5_1 + 1)) * 256)) : Int).toNat - (x6_2 : Int).toNat) (bytesOf t401)) x5_1 (wrap64 (x6_2 + (t401.size : Int))) (wrap64 (x7_2 - 1)) s0_0 t400) = some (r1, r2) := by first | (rw [hy402]; with_reducible exact H) | (have H2_ := (Option.bind_some _ _).symm.trans H; rw [hy402]; with_reducible exact H2_) | (have H2_ := (Option.bind_some _ _).symm.trans H; with_reducible exact H2_) | with_reducible exact H | (rw [hy402]; exact H) | exact H
            have Ny402 := Aside0.mk hy402
            clear hy402
            obtain ⟨y406, hy406⟩ : ∃ y_ : List Int, y_ = (cpy x4_2 (x6_2 : Int).toNat (((wrap64 ((wrap64 (x5_1 + 1)) * 256)) : Int).toNat - (x6_2 : Int).toNat) (bytesOf t401)) := ⟨_, rfl⟩
            replace H : (spec_l1Rd_rom.l1 k2 (wrap64 (2 + t384)) y406 x5_1 (wrap64 (x6_2 + (t401.size : Int))) (wrap64 (x7_2 - 1)) s0_0 t400) = some (r1, r2) := by first | (rw [hy406]; with_reducible exact H) | (have H2_ := (Option.bind_some _ _).symm.trans H; rw [hy406]; with_reducible exact H2_) | (have H2_ := (Option.bind_some _ _).symm.trans H; with_reducible exact H2_) | with_reducible exact H | (rw [hy406]; exact H) | exact H
            have Ny406 := Aside0.mk hy406
            clear hy406
            have H' := Aside0.mk H
            clear H
            go_wp2_with (first | ((with_reducible refine gate_callee (f := 80) rfl ?_); refine goesL_ (some 30) rfl rfl Try.func80 (by kernel_rfl) rfl #[.pointer (some ⟨g, 0, none⟩)] rfl q53_ ?_; (with_reducible refine (spec_l1Rd_plain.calls k2 g s0_0 x1001_2 t397 t398 t399 t400 w0 _ ?side1 ?side2 A13.out).mono ?_); (case side1 => exact q108_); (case side2 => exact q105_); rintro e w18 ⟨rfl, hi, hb, hk⟩; refine ⟨_, rfl, ?_⟩; have n0_ := Aside0.mk (Kd.R_mono (Kd.R_keep (IsS78.apart (show IsS78 w0 _ g s0_0 x1001_2 from by repeat (first | (with_reducible first | exact HI0.out | apply IsS78.alloc | apply IsS78.drewN | apply IsS78.drew | apply IsS78.set_1) | exact HI0.out)) q80_ (by decide)) hk (fun _ h => h.2)) (fun _ h => h.1)); have n1_ := Aside0.mk (KeepBut.trans q52_ hk (.inl rfl)); have n2_ := Aside0.mk (hb); have n3_ := Aside0.mk (hi); clear HO_4; clear HK; clear HB; clear HI0; have HO_4 := n0_; have HK := n1_; have HB := n2_; have HI0 := n3_; clear n0_ n1_ n2_ n3_; (try clear hb); (try clear hk); (try clear hi)) | ((with_reducible refine gate_callee (f := 79) rfl ?_); refine goesL_ (some 31) rfl rfl Try.func79 (by kernel_rfl) rfl #[.agg #[.int .i64 t397, .bool t398, .int .i64 t399]] rfl q53_ ?_; (with_reducible refine (spec_InsBytes.calls k2 t397 t398 t399 t401 _ A14.out).mono ?_); rintro e w19 ⟨rfl, hb⟩; refine ⟨_, rfl, ?_⟩; have n0_ := Aside0.mk (Kd.R_below q80_ hb); have n1_ := Aside0.mk (IsS78.below q51_ hb); have n2_ := Aside0.mk (KeepBut.trans q52_ (KeepBut.of_below hb g none) (.inl rfl)); have n3_ := Aside0.mk (below_step q37_ hb); clear HO_4; clear HI0; clear HK; clear HB; have HO_4 := n0_; have HI0 := n1_; have HK := n2_; have HB := n3_; clear n0_ n1_ n2_ n3_; (try clear hb); obtain ⟨Ao21, co21, eo21⟩ := Kd.R_slice HO_4.out; subst eo21; have q20 : ((wrap64 ((wrap64 (x5_1 + 1)) * 256)) : Int) ≤ ((x4_2.length : Int) : Int) := of_decide_eq_true q82_; obtain ⟨i020, hi020, _, hsz20, _⟩ := info_parts info5; have hroom20 : x4_2.length ≤ co21 := (Kd.R_reads' HO_4.out).2.1; have hC20 : Kd.C (Kd.int .u8) _ Ao21 x4_2.length x4_2 := (Kd.R_reads' HO_4.out).2.2; have ql20 : (x6_2 : Int) ≤ ((wrap64 ((wrap64 (x5_1 + 1)) * 256)) : Int) := of_decide_eq_true q82_; have q020 : (0 : Int) ≤ (x6_2 : Int) := of_decide_eq_true q82_; have hcut20 := cut_mid (P := Try.prog) 25 5 .i64 .i64 Try.underlying25 hi020 1 hsz20 Ao21 x4_2.length co21 x6_2 (wrap64 ((wrap64 (x5_1 + 1)) * 256)) q020 ql20 q20 hroom20; have hr20 := Kd.C_mid (lo := (x6_2 : Int).toNat) (hi := ((wrap64 ((wrap64 (x5_1 + 1)) * 256)) : Int).toNat) (c := co21) hC20 (by omega) (by omega) hroom20; obtain ⟨A20, hA20⟩ : ∃ A1, A1 = (if co21 = (x6_2 : Int).toNat then Ao21 else (Ao21 : Option Addr).map (·.add ((x6_2 : Int).toNat * 1))) := ⟨_, rfl⟩; obtain ⟨c20, hc20⟩ : ∃ c1, c1 = co21 - (x6_2 : Int).toNat := ⟨_, rfl⟩; have hy20 : y402.length = ((wrap64 ((wrap64 (x5_1 + 1)) * 256)) : Int).toNat - (x6_2 : Int).toNat := (by rw [Ny402.out, List.length_drop, List.length_take] <;> omega); rw [show ((x4_2).take ((wrap64 ((wrap64 (x5_1 + 1)) * 256)) : Int).toNat).drop (x6_2 : Int).toNat = y402 from Ny402.out.symm] at hr20; replace hr20 : Kd.C (Kd.int .u8) _ A20 y402.length y402 := (by rw [hA20]; exact hr20); rw [← hy20, ← hA20, ← hc20] at hcut20; have HR405 := Aside0.mk hr20; have HC405 := Aside0.mk (show y402.length ≤ c20 from by rw [hy20, hc20]; exact Nat.sub_le_sub_right (Nat.le_trans (by omega) hroom20) _); clear hr20 hC20 hroom20 hi020 hsz20 hc20; have KY20 := Aside0.mk hy20; have KA20 := Aside0.mk hA20; clear hy20 hA20; have KL20 := Aside0.mk (show ((wrap64 ((wrap64 (x5_1 + 1)) * 256)) : Int).toNat ≤ x4_2.length from by omega); have KM20 := Aside0.mk (show (x6_2 : Int).toNat ≤ ((wrap64 ((wrap64 (x5_1 + 1)) * 256)) : Int).toNat from by omega); replace q20 := eq_true q20) | ((with_reducible refine gate_builtin (b := .copy) rfl ?_); have e_ := (Kd.R_reads' HO_4.out).1; have hy1_ := KY20.out; have b0_ : (0 : Int) ≤ (x6_2 : Int) := of_decide_eq_true q82_; have b1_ : (x6_2 : Int) ≤ ((wrap64 ((wrap64 (x5_1 + 1)) * 256)) : Int) := of_decide_eq_true q82_; have b2_ : ((wrap64 ((wrap64 (x5_1 + 1)) * 256)) : Int) ≤ ((x4_2.length : Int) : Int) := of_decide_eq_true q82_; have hm_ : y402.length = (((wrap64 ((wrap64 (x5_1 + 1)) * 256)) : Int).toNat - (x6_2 : Int).toNat) := (by omega); have hv_ : cpy x4_2 (x6_2 : Int).toNat y402.length (bytesOf t401) = y406 := (by rw [Ny406.out]; first | done | rw [hm_]); refine R_copy w.heap.size rfl (.tmp 37) _ 25 _ 5 rfl Try.underlying25 (by kernel_rfl) (A0 := Ao21) (n := x4_2.length) (c := co21) (m := y402.length) (lo := (x6_2 : Int).toNat) rfl rfl ?hA q80_ ?hl (Below.refl _ _) (keep_size (w := w) (g := g) (row := none) q52_) ?_; (case hA => exact .inr KA20.out); (case hl => omega); intro w22 ho hb hg; rw [hv_] at ho; clear e_ hm_ hv_ hy1_ b0_ b1_ b2_; have n0_ := Aside0.mk (ho); have n1_ := Aside0.mk (IsS78.grown q51_ hg (IsS78.own_ne HI0.out HO_4.out (by decide))); have n2_ := Aside0.mk (below_weaken q37_ HL.out hb); have n3_ := Aside0.mk (KeepBut.trans q52_ (KeepBut.of_grown hg g) (Kd.R_base2 HO_4.out)); clear HO_4; clear HI0; clear HB; clear HK; have HO_4 := n0_; have HI0 := n1_; have HB := n2_; have HK := n3_; clear n0_ n1_ n2_ n3_; clear ho hb hg))
            go_roundg k2
            case measure => have := HK1.out; have := HK2.out; omega
            case rel => exact ⟨(y406), (wrap64 (x6_2 + (t401.size : Int))), (wrap64 (x7_2 - 1)), (t400), q74_, q74_, q73_, ⟨q93_⟩, ⟨q80_⟩, ⟨q51_⟩, ⟨q52_⟩, ⟨q37_⟩⟩
           ·rw [if_neg c17] at H
            exact absurd H (by simp)
          ·rw [if_neg c16] at H
           exact absurd H (by simp)
         ·rw [if_neg c15] at H
          exact absurd H (by simp)
        ·rw [if_neg c12] at H
         have c12b0 : decide (0 < x7_2) = false := decide_eq_false c12
         clear c12
         have H' := Aside0.mk H
         clear H
         go_wp2
         go_roundg k2
         case measure => have := HK1.out; have := HK2.out; omega
         case rel => exact ⟨(x4_2), (wrap64 (x5_1 + 1)), (x1001_2), q74_, q73_, ⟨q93_⟩, ⟨q80_⟩, ⟨q51_⟩, ⟨q52_⟩, ⟨q37_⟩⟩
     ·rw [if_neg c9] at H
      have c9b0 : decide (x5_1 < (wrap64 (2 + t384))) = false := decide_eq_false c9
      clear c9
      replace H := Option.bind_eq_some_iff.mp H
      obtain ⟨⟨t389, t390⟩, A240, H⟩ := H
      replace H : (if t389 = true then (if 1 ≤ (x4_1.length : Int) then (some (strOfNums (x4_1.drop 1), t390)) else (none)) else (some (strOfNums x4_1, t390))) = some (r1, r2) := H
      have A24 := Aside0.mk A240
      clear A240
      by_cases c25 : t389 = true
      ·subst c25
       replace H : (if 1 ≤ (x4_1.length : Int) then (some (strOfNums (x4_1.drop 1), t390)) else (none)) = some (r1, r2) := by rw [if_pos rfl] at H; exact H
       by_cases c26 : 1 ≤ (x4_1.length : Int)
       ·rw [if_pos c26] at H
        have c26b0 := eq_true c26
        have c26b1 : decide (1 ≤ (x4_1.length : Int)) = true := decide_eq_true c26
        clear c26
        obtain ⟨y391, hy391⟩ : ∃ y_ : List Int, y_ = (x4_1.drop 1) := ⟨_, rfl⟩
        replace H : (some (strOfNums y391, t390)) = some (r1, r2) := by first | (rw [hy391]; with_reducible exact H) | (have H2_ := (Option.bind_some _ _).symm.trans H; rw [hy391]; with_reducible exact H2_) | (have H2_ := (Option.bind_some _ _).symm.trans H; with_reducible exact H2_) | with_reducible exact H | (rw [hy391]; exact H) | exact H
        have Ny391 := Aside0.mk hy391
        clear hy391
        simp only [Option.some.injEq, Prod.mk.injEq] at H
        obtain ⟨rfl, rfl⟩ := H
        go_wp2_with (first | ((with_reducible refine gate_callee (f := 56) rfl ?_); refine goesL_ (some 45) rfl rfl Try.func56 (by kernel_rfl) rfl #[.pointer (some ⟨g, 0, none⟩), .int .i64 30] rfl q53_ ?_; (with_reducible refine (spec_l1Rd_once.calls g s0_0 x1001_1 30 true t390 w0 _ ?side1 ?side2 A24.out).mono ?_); (case side1 => exact q108_); (case side2 => exact q105_); rintro e w27 ⟨rfl, hi, hb, hk⟩; refine ⟨_, rfl, ?_⟩; have n0_ := Aside0.mk (Kd.R_mono (Kd.R_keep (IsS78.apart (show IsS78 w0 _ g s0_0 x1001_1 from by repeat (first | (with_reducible first | exact HI0.out | apply IsS78.alloc | apply IsS78.drewN | apply IsS78.drew | apply IsS78.set_1) | exact HI0.out)) q80_ (by decide)) hk (fun _ h => h.2)) (fun _ h => h.1)); have n1_ := Aside0.mk (KeepBut.trans q52_ hk (.inl rfl)); have n2_ := Aside0.mk (hb); have n3_ := Aside0.mk (hi); clear HO_4; clear HK; clear HB; clear HI0; have HO_4 := n0_; have HK := n1_; have HB := n2_; have HI0 := n3_; clear n0_ n1_ n2_ n3_; (try clear hb); (try clear hk); (try clear hi); obtain ⟨Ao29, co29, eo29⟩ := Kd.R_slice HO_4.out; subst eo29; have q28 : (1 : Int) ≤ ((x4_1.length : Int) : Int) := of_decide_eq_true q82_; obtain ⟨i028, hi028, _, hsz28, _⟩ := info_parts info5; have hroom28 : x4_1.length ≤ co29 := (Kd.R_reads' HO_4.out).2.1; have hC28 : Kd.C (Kd.int .u8) _ Ao29 x4_1.length x4_1 := (Kd.R_reads' HO_4.out).2.2; have hcut28 := cut_from (P := Try.prog) 25 5 .i64 Try.underlying25 hi028 1 hsz28 Ao29 x4_1.length co29 1 (by omega) q28; have hr28 := Kd.C_drop (m := (1 : Int).toNat) (c := co29) hC28 (by omega) hroom28; obtain ⟨A28, hA28⟩ : ∃ A1, A1 = (if co29 = (1 : Int).toNat then Ao29 else (Ao29 : Option Addr).map (·.add ((1 : Int).toNat * 1))) := ⟨_, rfl⟩; obtain ⟨c28, hc28⟩ : ∃ c1, c1 = co29 - (1 : Int).toNat := ⟨_, rfl⟩; have hy28 : y391.length = x4_1.length - (1 : Int).toNat := (by rw [Ny391.out, List.length_drop] <;> omega); rw [show (x4_1).drop (1 : Int).toNat = y391 from Ny391.out.symm] at hr28; replace hr28 : Kd.C (Kd.int .u8) _ A28 y391.length y391 := (by rw [hA28]; exact hr28); rw [← hy28, ← hA28, ← hc28] at hcut28; have HR394 := Aside0.mk hr28; have HC394 := Aside0.mk (show y391.length ≤ c28 from by rw [hy28, hc28]; exact Nat.sub_le_sub_right hroom28 _); clear hr28 hC28 hroom28 hi028 hsz28 hc28; have KY28 := Aside0.mk hy28; have KA28 := Aside0.mk hA28; clear hy28 hA28; have KL28 := Aside0.mk (show 1 ≤ x4_1.length from by omega); replace q28 := eq_true q28; have hcv30 := Kd.C_string (P := Try.prog) (A := A28) (c := c28) Try.underlying25 Try.underlying5 Try.underlying9 (by repeat (first | (with_reducible exact HR394.out) | (with_reducible refine Kd.C_alloc ?_ _) | (with_reducible refine Kd.C_drewN ?_ _) | (with_reducible refine Kd.C_drew ?_) | exact HR394.out))))
        go_ret
        exact ⟨q27_, q51_, q37_, q52_⟩
       ·rw [if_neg c26] at H
        exact absurd H (by simp)
      ·replace c25 := Bool.eq_false_iff.mpr c25
       subst c25
       replace H : (some (strOfNums x4_1, t390)) = some (r1, r2) := by rw [if_neg (show ¬ (false = true) by decide)] at H; exact H
       simp only [Option.some.injEq, Prod.mk.injEq] at H
       obtain ⟨rfl, rfl⟩ := H
       go_wp2_with (first | ((with_reducible refine gate_callee (f := 56) rfl ?_); refine goesL_ (some 45) rfl rfl Try.func56 (by kernel_rfl) rfl #[.pointer (some ⟨g, 0, none⟩), .int .i64 30] rfl q53_ ?_; (with_reducible refine (spec_l1Rd_once.calls g s0_0 x1001_1 30 false t390 w0 _ ?side1 ?side2 A24.out).mono ?_); (case side1 => exact q108_); (case side2 => exact q105_); rintro e w31 ⟨rfl, hi, hb, hk⟩; refine ⟨_, rfl, ?_⟩; have n0_ := Aside0.mk (Kd.R_mono (Kd.R_keep (IsS78.apart (show IsS78 w0 _ g s0_0 x1001_1 from by repeat (first | (with_reducible first | exact HI0.out | apply IsS78.alloc | apply IsS78.drewN | apply IsS78.drew | apply IsS78.set_1) | exact HI0.out)) q80_ (by decide)) hk (fun _ h => h.2)) (fun _ h => h.1)); have n1_ := Aside0.mk (KeepBut.trans q52_ hk (.inl rfl)); have n2_ := Aside0.mk (hb); have n3_ := Aside0.mk (hi); clear HO_4; clear HK; clear HB; clear HI0; have HO_4 := n0_; have HK := n1_; have HB := n2_; have HI0 := n3_; clear n0_ n1_ n2_ n3_; (try clear hb); (try clear hk); (try clear hi); have hcv32 := own_string (P := Try.prog) Try.underlying25 Try.underlying5 Try.underlying9 (Kd.own_of_R HO_4.out); have hcvq32 := fun m_ : Nat => own_string (P := Try.prog) Try.underlying25 Try.underlying5 Try.underlying9 (Kd.own_of_R (Kd.R_drewN HO_4.out m_))))
       go_ret
       exact ⟨q27_, q51_, q37_, q52_⟩
  ·rw [if_neg c5] at H
   exact absurd H (by simp)
 ·rw [if_neg c4] at H
  exact absurd H (by simp)
def spec_DrawCartNew.f (k : Nat) (l0 : List Int) : Option (ByteArray × Int) := (spec_l1Open.f l0).bind fun bt407 => ((spec_l1Rd_rom.f k bt407.1 bt407.2).bind fun bt410 => ((spec_l1Rd_off.f k bt407.1 bt410.2 0 2).bind fun bt412 => (some (bt410.1, bt412.1))))
theorem spec_DrawCartNew.mono : ∀ a0 k, LeO (spec_DrawCartNew.f k a0) (spec_DrawCartNew.f (k + 1) a0) := by
 intro a0 k
 unfold spec_DrawCartNew.f
 repeat' first
   | (with_reducible first | exact spec_l1Rd_off.mono _ _ _ _ _ | exact spec_l1Rd_rom.mono _ _ _ | exact LeO.refl _ | exact LeO.none _ | refine LeO.ite ?_ ?_ | refine LeO.bind ?_ (fun _ => ?_))
   | exact spec_l1Rd_off.mono _ _ _ _ _
   | exact spec_l1Rd_rom.mono _ _ _
   | exact LeO.none _
   | refine LeO.ite ?_ ?_
   | refine LeO.bind ?_ (fun _ => ?_)
theorem spec_DrawCartNew.calls (k : Nat) (A0 : Option Addr) (c0 : Nat) (l0 : List Int) (r1 : ByteArray) (r2 : Int) (w : World) (hr0 : Kd.C (Kd.int .u8) w A0 l0.length l0) (hc0 : l0.length ≤ c0) (h : spec_DrawCartNew.f k l0 = some (r1, r2)) :
  Calls Try.prog 28 #[.slice A0 l0.length c0] w fun e w' => e = .returned (.tuple #[.string r1, .int .i64 r2]) ∧ Below w.heap.size w w' := by
 have HR0 := Aside0.mk hr0
 have HC0 := Aside0.mk hc0
 clear hr0 hc0
 have HB := Aside0.mk (Below.refl w.heap.size w)
 have H : ((spec_l1Open.f l0).bind fun bt407 => ((spec_l1Rd_rom.f k bt407.1 bt407.2).bind fun bt410 => ((spec_l1Rd_off.f k bt407.1 bt410.2 0 2).bind fun bt412 => (some (bt410.1, bt412.1))))) = some (r1, r2) := h
 clear h
 replace H := Option.bind_eq_some_iff.mp H
 obtain ⟨⟨t407, t408⟩, A20, H⟩ := H
 replace H : ((spec_l1Rd_rom.f k t407 t408).bind fun bt410 => ((spec_l1Rd_off.f k t407 bt410.2 0 2).bind fun bt412 => (some (bt410.1, bt412.1)))) = some (r1, r2) := H
 have A2 := Aside0.mk A20
 clear A20
 replace H := Option.bind_eq_some_iff.mp H
 obtain ⟨⟨t410, t411⟩, A30, H⟩ := H
 replace H : ((spec_l1Rd_off.f k t407 t411 0 2).bind fun bt412 => (some (t410, bt412.1))) = some (r1, r2) := H
 have A3 := Aside0.mk A30
 clear A30
 replace H := Option.bind_eq_some_iff.mp H
 obtain ⟨⟨t412, t413⟩, A40, H⟩ := H
 replace H : (some (t410, t412)) = some (r1, r2) := H
 have A4 := Aside0.mk A40
 clear A40
 simp only [Option.some.injEq, Prod.mk.injEq] at H
 obtain ⟨rfl, rfl⟩ := H
 go_enter Try.func28, Try.ntmps28
 go_wp2_with (first | ((with_reducible refine gate_callee (f := 36) rfl ?_); refine goesL_ (some 7) rfl rfl Try.func36 (by kernel_rfl) rfl #[.slice A0 l0.length c0] rfl q53_ ?_; (with_reducible refine (spec_l1Open.calls _ _ l0 t407 t408 w _ ?side1 ?side2 ?side3 A2.out).mono ?_); (case side1 => repeat (first | (with_reducible first | exact HB.out | apply below_alloc | apply pw_below_drewN | apply below_drew1) | exact HB.out)); (case side2 => exact HR0.out); (case side3 => exact HC0.out); rintro e w5 ⟨g409, rfl, hi, hb, hb2⟩; refine ⟨_, rfl, ?_⟩; have n0_ := Aside0.mk (hb); have n1_ := Aside0.mk (hi); clear HB; have HB := n0_; have HI409 := n1_; clear n0_ n1_; (try clear hb); (try clear hb2); (try clear hi)) | ((with_reducible refine gate_callee (f := 69) rfl ?_); refine goesL_ (some 9) rfl rfl Try.func69 (by kernel_rfl) rfl #[.pointer (some ⟨g409, 0, none⟩)] rfl q53_ ?_; (with_reducible refine (spec_l1Rd_rom.calls k g409 t407 t408 t410 t411 w _ ?side1 ?side2 A3.out).mono ?_); (case side1 => exact q106_); (case side2 => exact q104_); rintro e w6 ⟨rfl, hi, hb, hk⟩; refine ⟨_, rfl, ?_⟩; have n0_ := Aside0.mk (hb); have n1_ := Aside0.mk (hi); clear HB; clear HI409; have HB := n0_; have HI409 := n1_; clear n0_ n1_; (try clear hb); (try clear hk); (try clear hi)) | ((with_reducible refine gate_callee (f := 57) rfl ?_); refine goesL_ (some 12) rfl rfl Try.func57 (by kernel_rfl) rfl #[.pointer (some ⟨g409, 0, none⟩), .int .i64 0, .int .i64 2] rfl q53_ ?_; (with_reducible refine (spec_l1Rd_off.calls k g409 t407 t411 0 2 t412 t413 w _ ?side1 ?side2 A4.out).mono ?_); (case side1 => exact q106_); (case side2 => exact q104_); rintro e w7 ⟨rfl, hi, hb, hk⟩; refine ⟨_, rfl, ?_⟩; have n0_ := Aside0.mk (hb); have n1_ := Aside0.mk (hi); clear HB; clear HI409; have HB := n0_; have HI409 := n1_; clear n0_ n1_; (try clear hb); (try clear hk); (try clear hi)))
 go_ret2
 exact ⟨q55_, by repeat (first | (with_reducible first | exact HB.out | apply below_alloc | apply pw_below_drewN | apply below_drew1 | refine below_set ?_ (IsS78.ge HI409.out)) | exact HB.out)⟩
-- NOT PRINTED: function 81 (abi_NoEscape)
-- NOT PRINTED: function 70 (strings_Builder_copyCheck)
-- NOT PRINTED: function 33 (strings_Builder_WriteString)
-- NOT PRINTED: function 35 (strings_Builder_String)
def stringslite_HasPrefix.f (a0 : ByteArray) (a1 : ByteArray) : Option (Bool) := if (a0.size : Int) ≥ (a1.size : Int) then (if 0 ≤ (a1.size : Int) then (if (a1.size : Int) ≤ (a0.size : Int) then (some ((a0.extract 0 ((a1.size : Int) : Int).toNat).toList == a1.toList)) else (none)) else (none)) else (some false)
theorem stringslite_HasPrefix.calls (a0 : ByteArray) (a1 : ByteArray) (r : Bool) (w : World) (h : stringslite_HasPrefix.f a0 a1 = some r) :
  Calls Try.prog 72 #[.string a0, .string a1] w fun e w' => e = .returned (.bool r) ∧ Drawn0 w w' := by
 have H : (if (a0.size : Int) ≥ (a1.size : Int) then (if 0 ≤ (a1.size : Int) then (if (a1.size : Int) ≤ (a0.size : Int) then (some ((a0.extract 0 ((a1.size : Int) : Int).toNat).toList == a1.toList)) else (none)) else (none)) else (some false)) = some r := h
 clear h
 by_cases c3 : (a0.size : Int) ≥ (a1.size : Int)
 ·rw [if_pos c3] at H
  have c3b0 : decide ((a1.size : Int) ≤ (a0.size : Int)) = true := decide_eq_true c3
  have c3b1 : decide (a1.size ≤ a0.size) = true := decide_eq_true (Int.ofNat_le.mp c3)
  clear c3
  by_cases c4 : 0 ≤ (a1.size : Int)
  ·rw [if_pos c4] at H
   have c4b0 := eq_true c4
   have c4b1 : decide (0 ≤ (a1.size : Int)) = true := decide_eq_true c4
   clear c4
   by_cases c5 : (a1.size : Int) ≤ (a0.size : Int)
   ·rw [if_pos c5] at H
    have c5b0 := eq_true c5
    have c5b1 : decide ((a1.size : Int) ≤ (a0.size : Int)) = true := decide_eq_true c5
    clear c5
    obtain rfl := Option.some.inj H
    go_enter Try.func72, Try.ntmps72
    go_wp2
    go_ret
    exact ⟨q74_, q81_⟩
   ·rw [if_neg c5] at H
    exact absurd H (by simp)
  ·rw [if_neg c4] at H
   exact absurd H (by simp)
 ·rw [if_neg c3] at H
  have c3b0 : decide ((a1.size : Int) ≤ (a0.size : Int)) = false := decide_eq_false c3
  have c3b1 : decide (a1.size ≤ a0.size) = false := decide_eq_false (fun h => c3 (Int.ofNat_le.mpr h))
  clear c3
  obtain rfl := Option.some.inj H
  go_enter Try.func72, Try.ntmps72
  go_wp2
  go_ret
  exact ⟨q74_, q81_⟩
def strings_HasPrefix.f (a0 : ByteArray) (a1 : ByteArray) : Option (Bool) := (stringslite_HasPrefix.f a0 a1).bind fun t414 => (some t414)
theorem strings_HasPrefix.calls (a0 : ByteArray) (a1 : ByteArray) (r : Bool) (w : World) (h : strings_HasPrefix.f a0 a1 = some r) :
  Calls Try.prog 39 #[.string a0, .string a1] w fun e w' => e = .returned (.bool r) ∧ Drawn0 w w' := by
 have H : ((stringslite_HasPrefix.f a0 a1).bind fun t414 => (some t414)) = some r := h
 clear h
 replace H := Option.bind_eq_some_iff.mp H
 obtain ⟨t414, A30, H⟩ := H
 have A3 := Aside0.mk A30
 clear A30
 obtain rfl := Option.some.inj H
 go_enter Try.func39, Try.ntmps39
 go_wp2_with (first | ((with_reducible refine gate_callee (f := 72) rfl ?_); refine goesL_ (some 7) rfl rfl Try.func72 (by kernel_rfl) rfl #[.string a0, .string a1] rfl q53_ ?_; (with_reducible refine (stringslite_HasPrefix.calls a0 a1 t414 _ A3.out).mono ?_); rintro e w' ⟨rfl, ⟨nd, rfl⟩⟩; refine ⟨_, rfl, ?_⟩))
 go_ret
 exact ⟨q74_, q81_⟩
def bits_Mul32.f (a0 : Int) (a1 : Int) : Option (Int × Int) := some (((IntKind.u64.wrap ((IntKind.u64.wrap (a0)) * (IntKind.u64.wrap (a1)))) / 4294967296) % 4294967296, (IntKind.u64.wrap ((IntKind.u64.wrap (a0)) * (IntKind.u64.wrap (a1)))) % 4294967296)
theorem bits_Mul32.calls (a0 : Int) (a1 : Int) (r1 : Int) (r2 : Int) (w : World) (h : bits_Mul32.f a0 a1 = some (r1, r2)) :
  Calls Try.prog 89 #[.int .u32 a0, .int .u32 a1] w fun e w' => e = .returned (.tuple #[.int .u32 r1, .int .u32 r2]) ∧ Drawn0 w w' := by
 have H : (some (((IntKind.u64.wrap ((IntKind.u64.wrap (a0)) * (IntKind.u64.wrap (a1)))) / 4294967296) % 4294967296, (IntKind.u64.wrap ((IntKind.u64.wrap (a0)) * (IntKind.u64.wrap (a1)))) % 4294967296)) = some (r1, r2) := h
 clear h
 simp only [Option.some.injEq, Prod.mk.injEq] at H
 obtain ⟨rfl, rfl⟩ := H
 go_enter Try.func89, Try.ntmps89
 go_wp2
 go_ret2
 exact ⟨q74_, q81_⟩
def bits_Mul64.f (a0 : Int) (a1 : Int) : Option (Int × Int) := some (IntKind.u64.wrap ((IntKind.u64.wrap ((IntKind.u64.wrap ((a0 / 4294967296) * (a1 / 4294967296))) + ((IntKind.u64.wrap ((IntKind.u64.wrap ((a0 / 4294967296) * (Go.bits .and .u64 a1 4294967295))) + ((IntKind.u64.wrap ((Go.bits .and .u64 a0 4294967295) * (Go.bits .and .u64 a1 4294967295))) / 4294967296))) / 4294967296))) + ((IntKind.u64.wrap ((Go.bits .and .u64 (IntKind.u64.wrap ((IntKind.u64.wrap ((a0 / 4294967296) * (Go.bits .and .u64 a1 4294967295))) + ((IntKind.u64.wrap ((Go.bits .and .u64 a0 4294967295) * (Go.bits .and .u64 a1 4294967295))) / 4294967296))) 4294967295) + (IntKind.u64.wrap ((Go.bits .and .u64 a0 4294967295) * (a1 / 4294967296))))) / 4294967296)), IntKind.u64.wrap (a0 * a1))
theorem bits_Mul64.calls (a0 : Int) (a1 : Int) (r1 : Int) (r2 : Int) (w : World) (h : bits_Mul64.f a0 a1 = some (r1, r2)) :
  Calls Try.prog 90 #[.int .u64 a0, .int .u64 a1] w fun e w' => e = .returned (.tuple #[.int .u64 r1, .int .u64 r2]) ∧ Drawn0 w w' := by
 have H : (some (IntKind.u64.wrap ((IntKind.u64.wrap ((IntKind.u64.wrap ((a0 / 4294967296) * (a1 / 4294967296))) + ((IntKind.u64.wrap ((IntKind.u64.wrap ((a0 / 4294967296) * (Go.bits .and .u64 a1 4294967295))) + ((IntKind.u64.wrap ((Go.bits .and .u64 a0 4294967295) * (Go.bits .and .u64 a1 4294967295))) / 4294967296))) / 4294967296))) + ((IntKind.u64.wrap ((Go.bits .and .u64 (IntKind.u64.wrap ((IntKind.u64.wrap ((a0 / 4294967296) * (Go.bits .and .u64 a1 4294967295))) + ((IntKind.u64.wrap ((Go.bits .and .u64 a0 4294967295) * (Go.bits .and .u64 a1 4294967295))) / 4294967296))) 4294967295) + (IntKind.u64.wrap ((Go.bits .and .u64 a0 4294967295) * (a1 / 4294967296))))) / 4294967296)), IntKind.u64.wrap (a0 * a1))) = some (r1, r2) := h
 clear h
 simp only [Option.some.injEq, Prod.mk.injEq] at H
 obtain ⟨rfl, rfl⟩ := H
 go_enter Try.func90, Try.ntmps90
 go_wp2
 go_ret2
 exact ⟨q74_, q81_⟩
def bits_Mul.f (a0 : Int) (a1 : Int) : Option (Int × Int) := (bits_Mul64.f a0 a1).bind fun bt415 => (some (bt415.1, bt415.2))
theorem bits_Mul.calls (a0 : Int) (a1 : Int) (r1 : Int) (r2 : Int) (w : World) (h : bits_Mul.f a0 a1 = some (r1, r2)) :
  Calls Try.prog 82 #[.int .u64 a0, .int .u64 a1] w fun e w' => e = .returned (.tuple #[.int .u64 r1, .int .u64 r2]) ∧ Drawn0 w w' := by
 have H : ((bits_Mul64.f a0 a1).bind fun bt415 => (some (bt415.1, bt415.2))) = some (r1, r2) := h
 clear h
 replace H := Option.bind_eq_some_iff.mp H
 obtain ⟨⟨t415, t416⟩, A30, H⟩ := H
 replace H : (some (t415, t416)) = some (r1, r2) := H
 have A3 := Aside0.mk A30
 clear A30
 simp only [Option.some.injEq, Prod.mk.injEq] at H
 obtain ⟨rfl, rfl⟩ := H
 go_enter Try.func82, Try.ntmps82
 go_wp2_with (first | ((with_reducible refine gate_callee (f := 90) rfl ?_); refine goesL_ (some 25) rfl rfl Try.func90 (by kernel_rfl) rfl #[.int .u64 a0, .int .u64 a1] rfl q53_ ?_; (with_reducible refine (bits_Mul64.calls a0 a1 t415 t416 _ A3.out).mono ?_); rintro e w' ⟨rfl, ⟨nd, rfl⟩⟩; refine ⟨_, rfl, ?_⟩))
 go_ret2
 exact ⟨q74_, q81_⟩
-- NOT PRINTED: function 95 (bytealg_MakeNoZero)
-- NOT PRINTED: function 91 (strings_Builder_grow)
-- NOT PRINTED: function 83 (strings_Builder_Grow)
-- NOT PRINTED: function 84 (strings_Builder_Len)
def impl_noughts.f (a0 : Int) : Option (ByteArray) := (strings_Repeat.f (⟨#[0]⟩ : ByteArray) a0).bind fun t417 => (some t417)
theorem impl_noughts.calls (a0 : Int) (r : ByteArray) (w : World) (h : impl_noughts.f a0 = some r) :
  Calls Try.prog 49 #[.int .i64 a0] w fun e w' => e = .returned (.string r) ∧ Below w.heap.size w w' := by
 have HB := Aside0.mk (Below.refl w.heap.size w)
 have H : ((strings_Repeat.f (⟨#[0]⟩ : ByteArray) a0).bind fun t417 => (some t417)) = some r := h
 clear h
 replace H := Option.bind_eq_some_iff.mp H
 obtain ⟨t417, A20, H⟩ := H
 have A2 := Aside0.mk A20
 clear A20
 obtain rfl := Option.some.inj H
 go_enter Try.func49, Try.ntmps49
 go_wp2_with (first | ((with_reducible refine gate_callee (f := 73) rfl ?_); refine goesL_ (some 4) rfl rfl Try.func73 (by kernel_rfl) rfl #[.string (⟨#[0]⟩ : ByteArray), .int .i64 a0] rfl q53_ ?_; (with_reducible refine (strings_Repeat.calls (⟨#[0]⟩ : ByteArray) a0 t417 _ A2.out).mono ?_); rintro e w3 ⟨rfl, hb⟩; refine ⟨_, rfl, ?_⟩; replace HB := Aside0.mk (below_step q54_ hb); (try clear hb)))
 go_ret
 exact ⟨q55_, q54_⟩
def impl_CartNew.f (k : Nat) (a0 : ByteArray) (a1 : Int) : Option (ByteArray × Int × Int × ByteArray × Int × Bool × Int × Bool) := (impl_noughts.f 256).bind fun t419 => ((impl_CartOk.f k a0 a1 1 t419 0 false 0).bind fun t421 => (if t421 = true then (some (a0, a1, 1, t419, 0, false, 0, true)) else (some ((⟨#[]⟩ : ByteArray), 0, 0, (⟨#[]⟩ : ByteArray), 0, false, 0, false))))
theorem impl_CartNew.mono : ∀ a0 a1 k, LeO (impl_CartNew.f k a0 a1) (impl_CartNew.f (k + 1) a0 a1) := by
 intro a0 a1 k
 unfold impl_CartNew.f
 repeat' first
   | (with_reducible first | exact impl_CartOk.mono _ _ _ _ _ _ _ _ | exact LeO.refl _ | exact LeO.none _ | refine LeO.ite ?_ ?_ | refine LeO.bind ?_ (fun _ => ?_))
   | exact impl_CartOk.mono _ _ _ _ _ _ _ _
   | exact LeO.none _
   | refine LeO.ite ?_ ?_
   | refine LeO.bind ?_ (fun _ => ?_)
theorem impl_CartNew.calls (k : Nat) (a0 : ByteArray) (a1 : Int) (r1 : ByteArray) (r2 : Int) (r3 : Int) (r4 : ByteArray) (r5 : Int) (r6 : Bool) (r7 : Int) (r8 : Bool) (w : World) (h : impl_CartNew.f k a0 a1 = some (r1, r2, r3, r4, r5, r6, r7, r8)) :
  Calls Try.prog 29 #[.string a0, .int .i64 a1] w fun e w' => e = .returned (.tuple #[.agg #[.string r1, .int .i64 r2, .int .i64 r3, .string r4, .int .i64 r5, .bool r6, .int .i64 r7], .bool r8]) ∧ Below w.heap.size w w' := by
 have hu32 := Try.underlying32
 have HB := Aside0.mk (Below.refl w.heap.size w)
 have H : ((impl_noughts.f 256).bind fun t419 => ((impl_CartOk.f k a0 a1 1 t419 0 false 0).bind fun t421 => (if t421 = true then (some (a0, a1, 1, t419, 0, false, 0, true)) else (some ((⟨#[]⟩ : ByteArray), 0, 0, (⟨#[]⟩ : ByteArray), 0, false, 0, false))))) = some (r1, r2, r3, r4, r5, r6, r7, r8) := h
 clear h
 replace H := Option.bind_eq_some_iff.mp H
 obtain ⟨t419, A30, H⟩ := H
 have A3 := Aside0.mk A30
 clear A30
 replace H := Option.bind_eq_some_iff.mp H
 obtain ⟨t421, A40, H⟩ := H
 have A4 := Aside0.mk A40
 clear A40
 by_cases c5 : t421 = true
 ·subst c5
  replace H : (some (a0, a1, 1, t419, 0, false, 0, true)) = some (r1, r2, r3, r4, r5, r6, r7, r8) := by rw [if_pos rfl] at H; exact H
  simp only [Option.some.injEq, Prod.mk.injEq] at H
  obtain ⟨rfl, rfl, rfl, rfl, rfl, rfl, rfl, rfl⟩ := H
  go_enter Try.func29, Try.ntmps29
  go_wp2_with (first | ((with_reducible refine gate_dst (N := 4) rfl ?_); refine box_event ?hg (N := 4) ?hd (cs := #[.string (⟨#[]⟩ : ByteArray), .int .i64 0, .int .i64 0, .string (⟨#[]⟩ : ByteArray), .int .i64 0, .bool false, .int .i64 0]) (t := 32) ?hr ?_; (case hd => rfl); (case hg => rfl); (case hr => exact q109_); intro gb418 hg w6 hbox hb; have n0_ := Aside0.mk (below_step q54_ hb); have n1_ := Aside0.mk (hbox); have n2_ := Aside0.mk ((q39_ : w.heap.size ≤ gb418)); have n3_ := Aside0.mk ((q39_ : w.heap.size ≤ gb418)); clear HB; have HB := n0_; have BK418 := n1_; have GW418 := n2_; have GE418 := n3_; clear n0_ n1_ n2_ n3_; clear hb hbox hg) | ((with_reducible refine gate_callee (f := 49) rfl ?_); refine goesL_ (some 9) rfl rfl Try.func49 (by kernel_rfl) rfl #[.int .i64 256] rfl q53_ ?_; (with_reducible refine (impl_noughts.calls 256 t419 _ A3.out).mono ?_); rintro e w7 ⟨rfl, hb⟩; refine ⟨_, rfl, ?_⟩; have n0_ := Aside0.mk (blk_below (g := gb418) (o := .cells #[.string (⟨#[]⟩ : ByteArray), .int .i64 0, .int .i64 0, .string (⟨#[]⟩ : ByteArray), .int .i64 0, .bool false, .int .i64 0] 32 (0, 0)) q68_ hb); have n1_ := Aside0.mk (below_step q47_ hb); clear BK418; clear HB; have BK418 := n0_; have HB := n1_; clear n0_ n1_; (try clear hb)) | ((with_reducible refine gate_dst (N := 6) rfl ?_); refine box_event ?hg (N := 6) ?hd (cs := #[.string (⟨#[]⟩ : ByteArray), .int .i64 0, .int .i64 0, .string (⟨#[]⟩ : ByteArray), .int .i64 0, .bool false, .int .i64 0]) (t := 32) ?hr ?_; (case hd => rfl); (case hg => rfl); (case hr => exact q109_); intro gb420 hg w8 hbox hb; have n0_ := Aside0.mk (blk_below (g := gb418) (o := .cells #[.string (⟨#[]⟩ : ByteArray), .int .i64 0, .int .i64 0, .string (⟨#[]⟩ : ByteArray), .int .i64 0, .bool false, .int .i64 0] 32 (0, 0)) q68_ hb); have n1_ := Aside0.mk (below_step q47_ hb); have n2_ := Aside0.mk (hbox); have n3_ := Aside0.mk ((q29_ : w.heap.size ≤ gb420)); have n4_ := Aside0.mk ((q29_ : w.heap.size ≤ gb420)); have n5_ := Aside0.mk ((q9_ : gb418 ≠ gb420)); have n6_ := Aside0.mk ((q10_ : gb420 ≠ gb418)); clear BK418; clear HB; have BK418 := n0_; have HB := n1_; have BK420 := n2_; have GW420 := n3_; have GE420 := n4_; have NB418_420 := n5_; have NB420_418 := n6_; clear n0_ n1_ n2_ n3_ n4_ n5_ n6_; clear hb hbox hg; have hnb9 := NB420_418.out; have hnc9 := NB418_420.out; have hcz10_0 : w8.cell? ⟨gb420, 0, none⟩ = some (.string (⟨#[]⟩ : ByteArray)) := (blk_cell BK420.out 0).trans rfl; have hcz10_1 : w8.cell? ⟨gb420, 1, none⟩ = some (.int .i64 0) := (blk_cell BK420.out 1).trans rfl; have hcz10_2 : w8.cell? ⟨gb420, 2, none⟩ = some (.int .i64 0) := (blk_cell BK420.out 2).trans rfl; have hcz10_3 : w8.cell? ⟨gb420, 3, none⟩ = some (.string (⟨#[]⟩ : ByteArray)) := (blk_cell BK420.out 3).trans rfl; have hcz10_4 : w8.cell? ⟨gb420, 4, none⟩ = some (.int .i64 0) := (blk_cell BK420.out 4).trans rfl; have hcz10_5 : w8.cell? ⟨gb420, 5, none⟩ = some (.bool false) := (blk_cell BK420.out 5).trans rfl; have hcz10_6 : w8.cell? ⟨gb420, 6, none⟩ = some (.int .i64 0) := (blk_cell BK420.out 6).trans rfl; have hfz10_0 := blk_frozen BK420.out 0; have hfz10_1 := blk_frozen BK420.out 1; have hfz10_2 := blk_frozen BK420.out 2; have hfz10_3 := blk_frozen BK420.out 3; have hfz10_4 := blk_frozen BK420.out 4; have hfz10_5 := blk_frozen BK420.out 5; have hfz10_6 := blk_frozen BK420.out 6) | ((with_reducible refine gate_callee (f := 24) rfl ?_); refine goesL_ (some 12) rfl rfl Try.func24 (by kernel_rfl) rfl #[.agg #[.string a0, .int .i64 a1, .int .i64 1, .string t419, .int .i64 0, .bool false, .int .i64 0]] rfl q53_ ?_; (with_reducible refine (impl_CartOk.calls k a0 a1 1 t419 0 false 0 true _ A4.out).mono ?_); rintro e w11 ⟨rfl, hb⟩; refine ⟨_, rfl, ?_⟩; have n0_ := Aside0.mk (blk_below (g := gb418) (o := .cells #[.string (⟨#[]⟩ : ByteArray), .int .i64 0, .int .i64 0, .string (⟨#[]⟩ : ByteArray), .int .i64 0, .bool false, .int .i64 0] 32 (0, 0)) q3_ hb); have n1_ := Aside0.mk (blk_below (g := gb420) (o := .cells #[.string a0, .int .i64 a1, .int .i64 1, .string t419, .int .i64 0, .bool false, .int .i64 0] 32 (0, 0)) q2_ hb); have n2_ := Aside0.mk (below_step q32_ hb); clear BK418; clear BK420; clear HB; have BK418 := n0_; have BK420 := n1_; have HB := n2_; clear n0_ n1_ n2_; (try clear hb); have hcz12_0 : w11.cell? ⟨gb420, 0, none⟩ = some (.string a0) := (blk_cell BK420.out 0).trans rfl; have hcz12_1 : w11.cell? ⟨gb420, 1, none⟩ = some (.int .i64 a1) := (blk_cell BK420.out 1).trans rfl; have hcz12_2 : w11.cell? ⟨gb420, 2, none⟩ = some (.int .i64 1) := (blk_cell BK420.out 2).trans rfl; have hcz12_3 : w11.cell? ⟨gb420, 3, none⟩ = some (.string t419) := (blk_cell BK420.out 3).trans rfl; have hcz12_4 : w11.cell? ⟨gb420, 4, none⟩ = some (.int .i64 0) := (blk_cell BK420.out 4).trans rfl; have hcz12_5 : w11.cell? ⟨gb420, 5, none⟩ = some (.bool false) := (blk_cell BK420.out 5).trans rfl; have hcz12_6 : w11.cell? ⟨gb420, 6, none⟩ = some (.int .i64 0) := (blk_cell BK420.out 6).trans rfl; have hfz12_0 := blk_frozen BK420.out 0; have hfz12_1 := blk_frozen BK420.out 1; have hfz12_2 := blk_frozen BK420.out 2; have hfz12_3 := blk_frozen BK420.out 3; have hfz12_4 := blk_frozen BK420.out 4; have hfz12_5 := blk_frozen BK420.out 5; have hfz12_6 := blk_frozen BK420.out 6; have hcz13_0 : w11.cell? ⟨gb418, 0, none⟩ = some (.string (⟨#[]⟩ : ByteArray)) := (blk_cell BK418.out 0).trans rfl; have hcz13_1 : w11.cell? ⟨gb418, 1, none⟩ = some (.int .i64 0) := (blk_cell BK418.out 1).trans rfl; have hcz13_2 : w11.cell? ⟨gb418, 2, none⟩ = some (.int .i64 0) := (blk_cell BK418.out 2).trans rfl; have hcz13_3 : w11.cell? ⟨gb418, 3, none⟩ = some (.string (⟨#[]⟩ : ByteArray)) := (blk_cell BK418.out 3).trans rfl; have hcz13_4 : w11.cell? ⟨gb418, 4, none⟩ = some (.int .i64 0) := (blk_cell BK418.out 4).trans rfl; have hcz13_5 : w11.cell? ⟨gb418, 5, none⟩ = some (.bool false) := (blk_cell BK418.out 5).trans rfl; have hcz13_6 : w11.cell? ⟨gb418, 6, none⟩ = some (.int .i64 0) := (blk_cell BK418.out 6).trans rfl; have hfz13_0 := blk_frozen BK418.out 0; have hfz13_1 := blk_frozen BK418.out 1; have hfz13_2 := blk_frozen BK418.out 2; have hfz13_3 := blk_frozen BK418.out 3; have hfz13_4 := blk_frozen BK418.out 4; have hfz13_5 := blk_frozen BK418.out 5; have hfz13_6 := blk_frozen BK418.out 6))
  refine bodyPost_ret (results_ct rfl _ _ gb418 32 #[.string a0, .int .i64 a1, .int .i64 1, .string t419, .int .i64 0, .bool false, .int .i64 0] (0, 0) _ rfl (by (with_reducible repeat (first | refine blk_drewN ?_ _ | refine blk_drew ?_ | refine blk_alloc ?_ _)); refine blk_put (cs := #[.string a0, .int .i64 a1, .int .i64 1, .string t419, .int .i64 0, .bool false, .int .i64 0]) ?_ 6 _ rfl; (with_reducible repeat (first | refine blk_drewN ?_ _ | refine blk_drew ?_ | refine blk_alloc ?_ _)); refine blk_put (cs := #[.string a0, .int .i64 a1, .int .i64 1, .string t419, .int .i64 0, .bool false, .int .i64 0]) ?_ 5 _ rfl; (with_reducible repeat (first | refine blk_drewN ?_ _ | refine blk_drew ?_ | refine blk_alloc ?_ _)); refine blk_put (cs := #[.string a0, .int .i64 a1, .int .i64 1, .string t419, .int .i64 0, .bool false, .int .i64 0]) ?_ 4 _ rfl; (with_reducible repeat (first | refine blk_drewN ?_ _ | refine blk_drew ?_ | refine blk_alloc ?_ _)); refine blk_put (cs := #[.string a0, .int .i64 a1, .int .i64 1, .string (⟨#[]⟩ : ByteArray), .int .i64 0, .bool false, .int .i64 0]) ?_ 3 _ rfl; (with_reducible repeat (first | refine blk_drewN ?_ _ | refine blk_drew ?_ | refine blk_alloc ?_ _)); refine blk_put (cs := #[.string a0, .int .i64 a1, .int .i64 0, .string (⟨#[]⟩ : ByteArray), .int .i64 0, .bool false, .int .i64 0]) ?_ 2 _ rfl; (with_reducible repeat (first | refine blk_drewN ?_ _ | refine blk_drew ?_ | refine blk_alloc ?_ _)); refine blk_put (cs := #[.string a0, .int .i64 0, .int .i64 0, .string (⟨#[]⟩ : ByteArray), .int .i64 0, .bool false, .int .i64 0]) ?_ 1 _ rfl; (with_reducible repeat (first | refine blk_drewN ?_ _ | refine blk_drew ?_ | refine blk_alloc ?_ _)); refine blk_put (cs := #[.string (⟨#[]⟩ : ByteArray), .int .i64 0, .int .i64 0, .string (⟨#[]⟩ : ByteArray), .int .i64 0, .bool false, .int .i64 0]) ?_ 0 _ rfl; (with_reducible repeat (first | refine blk_drewN ?_ _ | refine blk_drew ?_ | refine blk_alloc ?_ _)); exact BK418.out) Try.underlying32 rfl (by kernel_rfl)) rfl ?_
  exact ⟨q55_, q32_⟩
 ·replace c5 := Bool.eq_false_iff.mpr c5
  subst c5
  replace H : (some ((⟨#[]⟩ : ByteArray), 0, 0, (⟨#[]⟩ : ByteArray), 0, false, 0, false)) = some (r1, r2, r3, r4, r5, r6, r7, r8) := by rw [if_neg (show ¬ (false = true) by decide)] at H; exact H
  simp only [Option.some.injEq, Prod.mk.injEq] at H
  obtain ⟨rfl, rfl, rfl, rfl, rfl, rfl, rfl, rfl⟩ := H
  go_enter Try.func29, Try.ntmps29
  go_wp2_with (first | ((with_reducible refine gate_dst (N := 4) rfl ?_); refine box_event ?hg (N := 4) ?hd (cs := #[.string (⟨#[]⟩ : ByteArray), .int .i64 0, .int .i64 0, .string (⟨#[]⟩ : ByteArray), .int .i64 0, .bool false, .int .i64 0]) (t := 32) ?hr ?_; (case hd => rfl); (case hg => rfl); (case hr => exact q109_); intro gb418 hg w14 hbox hb; have n0_ := Aside0.mk (below_step q54_ hb); have n1_ := Aside0.mk (hbox); have n2_ := Aside0.mk ((q39_ : w.heap.size ≤ gb418)); have n3_ := Aside0.mk ((q39_ : w.heap.size ≤ gb418)); clear HB; have HB := n0_; have BK418 := n1_; have GW418 := n2_; have GE418 := n3_; clear n0_ n1_ n2_ n3_; clear hb hbox hg) | ((with_reducible refine gate_callee (f := 49) rfl ?_); refine goesL_ (some 9) rfl rfl Try.func49 (by kernel_rfl) rfl #[.int .i64 256] rfl q53_ ?_; (with_reducible refine (impl_noughts.calls 256 t419 _ A3.out).mono ?_); rintro e w15 ⟨rfl, hb⟩; refine ⟨_, rfl, ?_⟩; have n0_ := Aside0.mk (blk_below (g := gb418) (o := .cells #[.string (⟨#[]⟩ : ByteArray), .int .i64 0, .int .i64 0, .string (⟨#[]⟩ : ByteArray), .int .i64 0, .bool false, .int .i64 0] 32 (0, 0)) q68_ hb); have n1_ := Aside0.mk (below_step q47_ hb); clear BK418; clear HB; have BK418 := n0_; have HB := n1_; clear n0_ n1_; (try clear hb)) | ((with_reducible refine gate_dst (N := 6) rfl ?_); refine box_event ?hg (N := 6) ?hd (cs := #[.string (⟨#[]⟩ : ByteArray), .int .i64 0, .int .i64 0, .string (⟨#[]⟩ : ByteArray), .int .i64 0, .bool false, .int .i64 0]) (t := 32) ?hr ?_; (case hd => rfl); (case hg => rfl); (case hr => exact q109_); intro gb420 hg w16 hbox hb; have n0_ := Aside0.mk (blk_below (g := gb418) (o := .cells #[.string (⟨#[]⟩ : ByteArray), .int .i64 0, .int .i64 0, .string (⟨#[]⟩ : ByteArray), .int .i64 0, .bool false, .int .i64 0] 32 (0, 0)) q68_ hb); have n1_ := Aside0.mk (below_step q47_ hb); have n2_ := Aside0.mk (hbox); have n3_ := Aside0.mk ((q29_ : w.heap.size ≤ gb420)); have n4_ := Aside0.mk ((q29_ : w.heap.size ≤ gb420)); have n5_ := Aside0.mk ((q9_ : gb418 ≠ gb420)); have n6_ := Aside0.mk ((q10_ : gb420 ≠ gb418)); clear BK418; clear HB; have BK418 := n0_; have HB := n1_; have BK420 := n2_; have GW420 := n3_; have GE420 := n4_; have NB418_420 := n5_; have NB420_418 := n6_; clear n0_ n1_ n2_ n3_ n4_ n5_ n6_; clear hb hbox hg; have hnb17 := NB420_418.out; have hnc17 := NB418_420.out; have hcz18_0 : w16.cell? ⟨gb420, 0, none⟩ = some (.string (⟨#[]⟩ : ByteArray)) := (blk_cell BK420.out 0).trans rfl; have hcz18_1 : w16.cell? ⟨gb420, 1, none⟩ = some (.int .i64 0) := (blk_cell BK420.out 1).trans rfl; have hcz18_2 : w16.cell? ⟨gb420, 2, none⟩ = some (.int .i64 0) := (blk_cell BK420.out 2).trans rfl; have hcz18_3 : w16.cell? ⟨gb420, 3, none⟩ = some (.string (⟨#[]⟩ : ByteArray)) := (blk_cell BK420.out 3).trans rfl; have hcz18_4 : w16.cell? ⟨gb420, 4, none⟩ = some (.int .i64 0) := (blk_cell BK420.out 4).trans rfl; have hcz18_5 : w16.cell? ⟨gb420, 5, none⟩ = some (.bool false) := (blk_cell BK420.out 5).trans rfl; have hcz18_6 : w16.cell? ⟨gb420, 6, none⟩ = some (.int .i64 0) := (blk_cell BK420.out 6).trans rfl; have hfz18_0 := blk_frozen BK420.out 0; have hfz18_1 := blk_frozen BK420.out 1; have hfz18_2 := blk_frozen BK420.out 2; have hfz18_3 := blk_frozen BK420.out 3; have hfz18_4 := blk_frozen BK420.out 4; have hfz18_5 := blk_frozen BK420.out 5; have hfz18_6 := blk_frozen BK420.out 6) | ((with_reducible refine gate_callee (f := 24) rfl ?_); refine goesL_ (some 12) rfl rfl Try.func24 (by kernel_rfl) rfl #[.agg #[.string a0, .int .i64 a1, .int .i64 1, .string t419, .int .i64 0, .bool false, .int .i64 0]] rfl q53_ ?_; (with_reducible refine (impl_CartOk.calls k a0 a1 1 t419 0 false 0 false _ A4.out).mono ?_); rintro e w19 ⟨rfl, hb⟩; refine ⟨_, rfl, ?_⟩; have n0_ := Aside0.mk (blk_below (g := gb418) (o := .cells #[.string (⟨#[]⟩ : ByteArray), .int .i64 0, .int .i64 0, .string (⟨#[]⟩ : ByteArray), .int .i64 0, .bool false, .int .i64 0] 32 (0, 0)) q3_ hb); have n1_ := Aside0.mk (blk_below (g := gb420) (o := .cells #[.string a0, .int .i64 a1, .int .i64 1, .string t419, .int .i64 0, .bool false, .int .i64 0] 32 (0, 0)) q2_ hb); have n2_ := Aside0.mk (below_step q32_ hb); clear BK418; clear BK420; clear HB; have BK418 := n0_; have BK420 := n1_; have HB := n2_; clear n0_ n1_ n2_; (try clear hb); have hcz20_0 : w19.cell? ⟨gb418, 0, none⟩ = some (.string (⟨#[]⟩ : ByteArray)) := (blk_cell BK418.out 0).trans rfl; have hcz20_1 : w19.cell? ⟨gb418, 1, none⟩ = some (.int .i64 0) := (blk_cell BK418.out 1).trans rfl; have hcz20_2 : w19.cell? ⟨gb418, 2, none⟩ = some (.int .i64 0) := (blk_cell BK418.out 2).trans rfl; have hcz20_3 : w19.cell? ⟨gb418, 3, none⟩ = some (.string (⟨#[]⟩ : ByteArray)) := (blk_cell BK418.out 3).trans rfl; have hcz20_4 : w19.cell? ⟨gb418, 4, none⟩ = some (.int .i64 0) := (blk_cell BK418.out 4).trans rfl; have hcz20_5 : w19.cell? ⟨gb418, 5, none⟩ = some (.bool false) := (blk_cell BK418.out 5).trans rfl; have hcz20_6 : w19.cell? ⟨gb418, 6, none⟩ = some (.int .i64 0) := (blk_cell BK418.out 6).trans rfl; have hfz20_0 := blk_frozen BK418.out 0; have hfz20_1 := blk_frozen BK418.out 1; have hfz20_2 := blk_frozen BK418.out 2; have hfz20_3 := blk_frozen BK418.out 3; have hfz20_4 := blk_frozen BK418.out 4; have hfz20_5 := blk_frozen BK418.out 5; have hfz20_6 := blk_frozen BK418.out 6))
  refine bodyPost_ret (results_ct rfl _ _ gb418 32 #[.string (⟨#[]⟩ : ByteArray), .int .i64 0, .int .i64 0, .string (⟨#[]⟩ : ByteArray), .int .i64 0, .bool false, .int .i64 0] (0, 0) _ rfl (by (with_reducible repeat (first | refine blk_drewN ?_ _ | refine blk_drew ?_ | refine blk_alloc ?_ _)); refine blk_put (cs := #[.string (⟨#[]⟩ : ByteArray), .int .i64 0, .int .i64 0, .string (⟨#[]⟩ : ByteArray), .int .i64 0, .bool false, .int .i64 0]) ?_ 6 _ rfl; (with_reducible repeat (first | refine blk_drewN ?_ _ | refine blk_drew ?_ | refine blk_alloc ?_ _)); refine blk_put (cs := #[.string (⟨#[]⟩ : ByteArray), .int .i64 0, .int .i64 0, .string (⟨#[]⟩ : ByteArray), .int .i64 0, .bool false, .int .i64 0]) ?_ 5 _ rfl; (with_reducible repeat (first | refine blk_drewN ?_ _ | refine blk_drew ?_ | refine blk_alloc ?_ _)); refine blk_put (cs := #[.string (⟨#[]⟩ : ByteArray), .int .i64 0, .int .i64 0, .string (⟨#[]⟩ : ByteArray), .int .i64 0, .bool false, .int .i64 0]) ?_ 4 _ rfl; (with_reducible repeat (first | refine blk_drewN ?_ _ | refine blk_drew ?_ | refine blk_alloc ?_ _)); refine blk_put (cs := #[.string (⟨#[]⟩ : ByteArray), .int .i64 0, .int .i64 0, .string (⟨#[]⟩ : ByteArray), .int .i64 0, .bool false, .int .i64 0]) ?_ 3 _ rfl; (with_reducible repeat (first | refine blk_drewN ?_ _ | refine blk_drew ?_ | refine blk_alloc ?_ _)); refine blk_put (cs := #[.string (⟨#[]⟩ : ByteArray), .int .i64 0, .int .i64 0, .string (⟨#[]⟩ : ByteArray), .int .i64 0, .bool false, .int .i64 0]) ?_ 2 _ rfl; (with_reducible repeat (first | refine blk_drewN ?_ _ | refine blk_drew ?_ | refine blk_alloc ?_ _)); refine blk_put (cs := #[.string (⟨#[]⟩ : ByteArray), .int .i64 0, .int .i64 0, .string (⟨#[]⟩ : ByteArray), .int .i64 0, .bool false, .int .i64 0]) ?_ 1 _ rfl; (with_reducible repeat (first | refine blk_drewN ?_ _ | refine blk_drew ?_ | refine blk_alloc ?_ _)); refine blk_put (cs := #[.string (⟨#[]⟩ : ByteArray), .int .i64 0, .int .i64 0, .string (⟨#[]⟩ : ByteArray), .int .i64 0, .bool false, .int .i64 0]) ?_ 0 _ rfl; (with_reducible repeat (first | refine blk_drewN ?_ _ | refine blk_drew ?_ | refine blk_alloc ?_ _)); exact BK418.out) Try.underlying32 rfl (by kernel_rfl)) rfl ?_
  exact ⟨q55_, q32_⟩
def spec_l5Banks.f (a0 : ByteArray) : Option (Int) := if ((a0.size : Int) % 256) = 0 then ((spec_l1In.f (wrap64 ((a0.size : Int) / 256)) 2 16).bind fun t422 => (if t422 = true then (some (wrap64 ((a0.size : Int) / 256))) else (some 0))) else (some 0)
theorem spec_l5Banks.calls (a0 : ByteArray) (r : Int) (w : World) (h : spec_l5Banks.f a0 = some r) :
  Calls Try.prog 68 #[.string a0] w fun e w' => e = .returned (.int .i64 r) ∧ Drawn0 w w' := by
 have H : (if ((a0.size : Int) % 256) = 0 then ((spec_l1In.f (wrap64 ((a0.size : Int) / 256)) 2 16).bind fun t422 => (if t422 = true then (some (wrap64 ((a0.size : Int) / 256))) else (some 0))) else (some 0)) = some r := h
 clear h
 by_cases c2 : ((a0.size : Int) % 256) = 0
 ·rw [if_pos c2] at H
  have c2b0 : (((a0.size : Int) % 256) == 0) = true := beq_iff_eq.mpr c2
  have c2b1 : (((a0.size : Int) % 256) != 0) = false := bne_eq_false_iff_eq.mpr c2
  clear c2
  replace H := Option.bind_eq_some_iff.mp H
  obtain ⟨t422, A30, H⟩ := H
  have A3 := Aside0.mk A30
  clear A30
  by_cases c4 : t422 = true
  ·subst c4
   replace H : (some (wrap64 ((a0.size : Int) / 256))) = some r := by rw [if_pos rfl] at H; exact H
   obtain rfl := Option.some.inj H
   go_enter Try.func68, Try.ntmps68
   go_wp2_with (first | (go_at_call 41; (with_reducible refine (spec_l1In.calls (wrap64 ((a0.size : Int) / 256)) 2 16 true _ A3.out).mono ?_); rintro e w' ⟨rfl, ⟨nd, rfl⟩⟩))
   go_ret
   exact ⟨q74_, q81_⟩
  ·replace c4 := Bool.eq_false_iff.mpr c4
   subst c4
   replace H : (some 0) = some r := by rw [if_neg (show ¬ (false = true) by decide)] at H; exact H
   obtain rfl := Option.some.inj H
   go_enter Try.func68, Try.ntmps68
   go_wp2_with (first | (go_at_call 41; (with_reducible refine (spec_l1In.calls (wrap64 ((a0.size : Int) / 256)) 2 16 false _ A3.out).mono ?_); rintro e w' ⟨rfl, ⟨nd, rfl⟩⟩))
   go_ret
   exact ⟨q74_, q81_⟩
 ·rw [if_neg c2] at H
  have c2b0 : (((a0.size : Int) % 256) == 0) = false := beq_eq_false_iff_ne.mpr c2
  have c2b1 : (((a0.size : Int) % 256) != 0) = true := bne_iff_ne.mpr c2
  obtain rfl := Option.some.inj H
  go_enter Try.func68, Try.ntmps68
  go_wp2
  go_ret
  exact ⟨q74_, q81_⟩
end Go.Proofs.Ytcohcndliaaacaa.QFnCartNew
