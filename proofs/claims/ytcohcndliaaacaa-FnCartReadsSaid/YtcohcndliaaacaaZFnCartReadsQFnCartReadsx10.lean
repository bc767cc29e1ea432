/- The machine's side of a law, written by a program of this session for this claim. -/
import Derived.Test.YtcohcndliaaacaaZFnCartReadsQq
import Derived.Test.YtcohcndliaaacaaZFnCartReadsQFnCartReadsx0
import Derived.Test.YtcohcndliaaacaaZFnCartReadsQFnCartReadsx1
import Derived.Test.YtcohcndliaaacaaZFnCartReadsQFnCartReadsx4
import Derived.Test.YtcohcndliaaacaaZFnCartReadsQFnCartReadsx9
namespace Go.Proofs.Ytcohcndliaaacaa.QFnCartReads
open Go.Proofs.Ytcohcndliaaacaa.Qq
open Go.RowKit Go.Proofs.Ytcohcndliaaacaa.LibX Go.Proofs.Ytcohcndliaaacaa.LibC Go.Proofs.YtcohcndliaaacaaW.PrintWords Go.Proofs.YtcohcndliaaacaaW.PrintLast Go.Proofs.YtcohcndliaaacaaW.PrintMore
attribute [local go_sem] max2_int min2_int max_two min_two max_three min_three max_four min_four   -- for this text's walks alone
set_option maxHeartbeats 8000000
set_option maxRecDepth 100000
set_option linter.unusedVariables false
set_option linter.unusedSimpArgs false
def spec_l1Rd_plain.j0 : Nat → Bool → List Int → Int → Int → Bool → Int → Option (Int × Bool × Int × Int)
 | 0, _, _, _, _, _, _ => none
 | k + 1, x11, x1000, x1001, x404000, x404001, x404002 => if x11 = true then (some (x404000, x404001, x404002, x1001)) else ((spec_l1Rd_below.f x1000 x1001 10).bind fun bt406 => (if bt406.1 = 0 then ((spec_l1Rd_byte.f x1000 bt406.2).bind fun bt408 => (some (62, false, bt408.1, bt408.2))) else (if bt406.1 = 1 then ((some (([49152, 65408, 256, 128, 40960] : List Int) : List Int)).bind fun y410 => ((spec_l1Rd_below.f x1000 bt406.2 5).bind fun bt413 => (if 0 ≤ bt413.1 then (if bt413.1 < (y410.length : Int) then (some (33, false, rd y410 bt413.1, bt413.2)) else (none)) else (none)))) else (if bt406.1 = 2 then (some (119, false, 0, bt406.2)) else (if bt406.1 = 3 then (some (224, false, 1, bt406.2)) else (if bt406.1 = 4 then ((some (([49152, 65281, 130, 10, 300, 40961] : List Int) : List Int)).bind fun y416 => ((spec_l1Rd_below.f x1000 bt406.2 6).bind fun bt419 => (if 0 ≤ bt419.1 then (if bt419.1 < (y416.length : Int) then (some (234, false, rd y416 bt419.1, bt419.2)) else (none)) else (none)))) else (if x404000 ≥ 192 then (if x404002 > 511 then (some (x404000, x404001, Int.tmod x404002 40, bt406.2)) else (some (x404000, x404001, x404002, bt406.2))) else (some (x404000, x404001, x404002, bt406.2)))))))))
def spec_l1Rd_plain.f (k : Nat) (s0_0 : List Int) (s0_1 : Int) : Option (Int × Bool × Int × Int) := (spec_l1Rd_ins.f k s0_0 s0_1).bind fun bt399 => (if bt399.2.1 = true then (spec_l1Rd_plain.j0 k true s0_0 bt399.2.2.2 bt399.1 bt399.2.1 bt399.2.2.1) else ((spec_l1Rd_once.f s0_0 bt399.2.2.2 6).bind fun bt404 => (spec_l1Rd_plain.j0 k bt404.1 s0_0 bt404.2 bt399.1 bt399.2.1 bt399.2.2.1)))
theorem spec_l1Rd_plain.mono_l : ∀ k, (∀ y0 y1 y2 y3 y4 y5, LeO (spec_l1Rd_plain.j0 k y0 y1 y2 y3 y4 y5) (spec_l1Rd_plain.j0 (k + 1) y0 y1 y2 y3 y4 y5))
 | 0 => fun _ _ _ _ _ _ r h => by simp [spec_l1Rd_plain.j0] at h
 | k + 1 => by
  have ih0 := spec_l1Rd_plain.mono_l k
  ·intro y0 y1 y2 y3 y4 y5
   unfold spec_l1Rd_plain.j0
   repeat' first
   | (with_reducible first | exact ih0 _ _ _ _ _ _ | exact spec_l1Rd_ins.mono _ _ _ | exact LeO.refl _ | exact LeO.none _ | refine LeO.ite ?_ ?_ | refine LeO.bind ?_ (fun _ => ?_))
   | exact ih0 _ _ _ _ _ _
   | exact spec_l1Rd_ins.mono _ _ _
   | exact LeO.none _
   | refine LeO.ite ?_ ?_
   | refine LeO.bind ?_ (fun _ => ?_)
theorem spec_l1Rd_plain.mono : ∀ a0 a1 k, LeO (spec_l1Rd_plain.f k a0 a1) (spec_l1Rd_plain.f (k + 1) a0 a1) := by
 intro a0 a1 k
 have ih0 := spec_l1Rd_plain.mono_l k
 unfold spec_l1Rd_plain.f
 repeat' first
   | (with_reducible first | exact ih0 _ _ _ _ _ _ | exact spec_l1Rd_ins.mono _ _ _ | exact LeO.refl _ | exact LeO.none _ | refine LeO.ite ?_ ?_ | refine LeO.bind ?_ (fun _ => ?_))
   | exact ih0 _ _ _ _ _ _
   | exact spec_l1Rd_ins.mono _ _ _
   | exact LeO.none _
   | refine LeO.ite ?_ ?_
   | refine LeO.bind ?_ (fun _ => ?_)
theorem spec_l1Rd_plain.calls (k : Nat) (g : Nat) (s0_0 : List Int) (s0_1 : Int) (r1 : Int) (r2 : Bool) (r3 : Int) (r4 : Int) (w0 w : World) (hI : IsS78 w0 w g s0_0 s0_1) (hB : Below w0.heap.size w0 w) (h : spec_l1Rd_plain.f k s0_0 s0_1 = some (r1, r2, r3, r4)) :
  Calls Try.prog 80 #[.pointer (some ⟨g, 0, none⟩)] w fun e w' => e = .returned (.agg #[.int .i64 r1, .bool r2, .int .i64 r3]) ∧ IsS78 w0 w' g s0_0 r4 ∧ Below w0.heap.size w0 w' ∧ KeepBut w w' g none := by
 have hu85 := Try.underlying85
 have HI0 := Aside0.mk hI
 have HK := Aside0.mk (KeepBut.refl w g none)
 have HL := Aside0.mk hB.size
 clear hI
 have HW0 := Aside0.mk hB.size
 have HB := Aside0.mk hB
 clear hB
 have H : ((spec_l1Rd_ins.f k s0_0 s0_1).bind fun bt399 => (if bt399.2.1 = true then (spec_l1Rd_plain.j0 k true s0_0 bt399.2.2.2 bt399.1 bt399.2.1 bt399.2.2.1) else ((spec_l1Rd_once.f s0_0 bt399.2.2.2 6).bind fun bt404 => (spec_l1Rd_plain.j0 k bt404.1 s0_0 bt404.2 bt399.1 bt399.2.1 bt399.2.2.1)))) = some (r1, r2, r3, r4) := h
 clear h
 replace H := Option.bind_eq_some_iff.mp H
 obtain ⟨⟨t399, t400, t401, t402⟩, A20, H⟩ := H
 replace H : (if t400 = true then (spec_l1Rd_plain.j0 k true s0_0 t402 t399 t400 t401) else ((spec_l1Rd_once.f s0_0 t402 6).bind fun bt404 => (spec_l1Rd_plain.j0 k bt404.1 s0_0 bt404.2 t399 t400 t401))) = some (r1, r2, r3, r4) := H
 have A2 := Aside0.mk A20
 clear A20
 have HC3 := Aside0.mk H
 clear H
 go_enter Try.func80, Try.ntmps80
 go_upto_region 2 with (first | ((with_reducible refine gate_dst (N := 2) rfl ?_); refine box_event ?hg (N := 2) ?hd (cs := #[.int .i64 0, .bool false, .int .i64 0]) (t := 85) ?hr ?_; (case hd => rfl); (case hg => rfl); (case hr => exact q138_); intro gb398 hg w4 hbox hb; have n0_ := Aside0.mk (IsS78.below q69_ hb); have n1_ := Aside0.mk (KeepBut.trans q70_ (KeepBut.of_below hb g none) (.inl rfl)); have n2_ := Aside0.mk (below_step q50_ hb); have n3_ := Aside0.mk (hbox); have n4_ := Aside0.mk ((q33_ : w.heap.size ≤ gb398)); have n5_ := Aside0.mk ((Nat.le_trans HW0.out (q33_ : w.heap.size ≤ gb398) : w0.heap.size ≤ gb398)); have n6_ := Aside0.mk ((q24_ : g ≠ gb398)); have n7_ := Aside0.mk ((q25_ : gb398 ≠ g)); clear HI0; clear HK; clear HB; have HI0 := n0_; have HK := n1_; have HB := n2_; have BK398 := n3_; have GW398 := n4_; have GE398 := n5_; have NB0_398 := n6_; have NB398_0 := n7_; clear n0_ n1_ n2_ n3_ n4_ n5_ n6_ n7_; clear hb hbox hg) | ((with_reducible refine gate_callee (f := 88) rfl ?_); refine goesL_ (some 5) rfl rfl Try.func88 (by kernel_rfl) rfl #[.pointer (some ⟨g, 0, none⟩)] rfl q74_ ?_; (with_reducible refine (spec_l1Rd_ins.calls k g s0_0 s0_1 t399 t400 t401 t402 w0 _ ?side1 ?side2 A2.out).mono ?_); (case side1 => repeat (first | (with_reducible first | exact HI0.out | apply IsS78.alloc | apply IsS78.drewN | apply IsS78.drew | apply IsS78.set_1 | refine IsS78.far ?_ NB0_398.out _) | exact HI0.out)); (case side2 => repeat (first | (with_reducible first | exact HB.out | apply below_alloc | apply pw_below_drewN | apply below_drew1 | refine below_set ?_ (IsS78.ge HI0.out) | refine below_set ?_ GE398.out) | exact HB.out)); rintro e w5 ⟨rfl, hi, hb, hk⟩; refine ⟨_, rfl, ?_⟩; have n0_ := Aside0.mk (KeepBut.blk hk (g' := gb398) (o := .cells #[.int .i64 0, .bool false, .int .i64 0] 85 (0, 0)) q89_ NB398_0.out (by simp)); have n1_ := Aside0.mk (KeepBut.trans q48_ hk (.inl rfl)); have n2_ := Aside0.mk (hb); have n3_ := Aside0.mk (hi); clear BK398; clear HK; clear HB; clear HI0; have BK398 := n0_; have HK := n1_; have HB := n2_; have HI0 := n3_; clear n0_ n1_ n2_ n3_; (try clear hb); (try clear hk); (try clear hi)) | ((with_reducible refine gate_dst (N := 3) rfl ?_); refine box_event ?hg (N := 3) ?hd (cs := #[.int .i64 0, .bool false, .int .i64 0]) (t := 85) ?hr ?_; (case hd => rfl); (case hg => rfl); (case hr => exact q138_); intro gb403 hg w6 hbox hb; have n0_ := Aside0.mk (IsS78.below (by repeat (first | (with_reducible first | exact HI0.out | apply IsS78.alloc | apply IsS78.drewN | apply IsS78.drew | apply IsS78.set_1 | refine IsS78.far ?_ NB0_398.out _) | exact HI0.out)) hb); have n1_ := Aside0.mk (blk_below (g := gb398) (o := .cells #[.int .i64 0, .bool false, .int .i64 0] 85 (0, 0)) q89_ hb); have n2_ := Aside0.mk (KeepBut.trans q48_ (KeepBut.of_below hb g none) (.inl rfl)); have n3_ := Aside0.mk (below_step (by repeat (first | (with_reducible first | exact HB.out | apply below_alloc | apply pw_below_drewN | apply below_drew1 | refine below_set ?_ (IsS78.ge HI0.out) | refine below_set ?_ GE398.out) | exact HB.out)) hb); have n4_ := Aside0.mk (hbox); have n5_ := Aside0.mk ((q17_ : w.heap.size ≤ gb403)); have n6_ := Aside0.mk ((Nat.le_trans HW0.out (q17_ : w.heap.size ≤ gb403) : w0.heap.size ≤ gb403)); have n7_ := Aside0.mk ((by rw [hg]; exact Nat.ne_of_lt (blk_lt (g := gb398) (o := .cells #[.int .i64 0, .bool false, .int .i64 0] 85 (0, 0)) q89_) : gb398 ≠ gb403)); have n8_ := Aside0.mk ((by rw [hg]; exact Nat.ne_of_gt (blk_lt (g := gb398) (o := .cells #[.int .i64 0, .bool false, .int .i64 0] 85 (0, 0)) q89_) : gb403 ≠ gb398)); have n9_ := Aside0.mk ((by rw [hg]; exact Nat.ne_of_lt (IsS78.lt (show IsS78 w0 _ g s0_0 t402 from by repeat (first | (with_reducible first | exact HI0.out | apply IsS78.alloc | apply IsS78.drewN | apply IsS78.drew | apply IsS78.set_1 | refine IsS78.far ?_ NB0_398.out _) | exact HI0.out))) : g ≠ gb403)); have n10_ := Aside0.mk ((by rw [hg]; exact Nat.ne_of_gt (IsS78.lt (show IsS78 w0 _ g s0_0 t402 from by repeat (first | (with_reducible first | exact HI0.out | apply IsS78.alloc | apply IsS78.drewN | apply IsS78.drew | apply IsS78.set_1 | refine IsS78.far ?_ NB0_398.out _) | exact HI0.out))) : gb403 ≠ g)); clear HI0; clear BK398; clear HK; clear HB; have HI0 := n0_; have BK398 := n1_; have HK := n2_; have HB := n3_; have BK403 := n4_; have GW403 := n5_; have GE403 := n6_; have NB398_403 := n7_; have NB403_398 := n8_; have NB0_403 := n9_; have NB403_0 := n10_; clear n0_ n1_ n2_ n3_ n4_ n5_ n6_ n7_ n8_ n9_ n10_; clear hb hbox hg; have hnb7 := NB403_398.out; have hnc7 := NB398_403.out; have hnb8 := NB403_0.out; have hnc8 := NB0_403.out; have hcz9_0 : w6.cell? ⟨gb403, 0, none⟩ = some (.int .i64 0) := (blk_cell BK403.out 0).trans rfl; have hcz9_1 : w6.cell? ⟨gb403, 1, none⟩ = some (.bool false) := (blk_cell BK403.out 1).trans rfl; have hcz9_2 : w6.cell? ⟨gb403, 2, none⟩ = some (.int .i64 0) := (blk_cell BK403.out 2).trans rfl; have hfz9_0 := blk_frozen BK403.out 0; have hfz9_1 := blk_frozen BK403.out 1; have hfz9_2 := blk_frozen BK403.out 2))
 (try simp only [Act.put, List.setIfInBounds_toArray, List.set_cons_zero, List.set_cons_succ])
 go_cut [11] (fun v11 wc => ∃ (kq : Nat) (x11_2 : Bool) (x1001_2 : Int), v11 = .bool x11_2 ∧ Aside0 (spec_l1Rd_plain.j0 kq x11_2 s0_0 x1001_2 t399 t400 t401 = some (r1, r2, r3, r4)) ∧ Aside0 (kq ≤ k) ∧ Aside0 (wc.heap[gb398]? = some (.cells #[.int .i64 0, .bool false, .int .i64 0] 85 (0, 0))) ∧ Aside0 (wc.heap[gb403]? = some (.cells #[.int .i64 t399, .bool t400, .int .i64 t401] 85 (0, 0))) ∧ Aside0 (IsS78 w0 wc g s0_0 x1001_2) ∧ Aside0 (KeepBut w wc g none) ∧ Aside0 (Below w0.heap.size w0 wc))
 case first =>
  have H := HC3.out
  clear HC3
  by_cases c10 : t400 = true
  ·subst c10
   replace H : (spec_l1Rd_plain.j0 k true s0_0 t402 t399 true t401) = some (r1, r2, r3, r4) := by rw [if_pos rfl] at H; exact H
   have H' := Aside0.mk H
   clear H
   have hnb11 := NB403_398.out
   have hnc11 := NB398_403.out
   have hnb12 := NB403_0.out
   have hnc12 := NB0_403.out
   have hcz13_0 : w6.cell? ⟨gb403, 0, none⟩ = some (.int .i64 0) := bz_ BK403 0
   have hcz13_1 : w6.cell? ⟨gb403, 1, none⟩ = some (.bool false) := bz_ BK403 1
   have hcz13_2 : w6.cell? ⟨gb403, 2, none⟩ = some (.int .i64 0) := bz_ BK403 2
   have hfz13_0 := blk_frozen BK403.out 0
   have hfz13_1 := blk_frozen BK403.out 1
   have hfz13_2 := blk_frozen BK403.out 2
   go_wp2
   go_meet
   case rel => exact ⟨_, (true), (t402), q101_, H', ⟨q121_⟩, ⟨q7_⟩, ⟨by (with_reducible repeat (first | refine blk_drewN ?_ _ | refine blk_drew ?_ | refine blk_alloc ?_ _)); refine blk_put (cs := #[.int .i64 t399, .bool true, .int .i64 0]) ?_ 2 _ rfl; (with_reducible repeat (first | refine blk_drewN ?_ _ | refine blk_drew ?_ | refine blk_alloc ?_ _)); refine blk_put (cs := #[.int .i64 t399, .bool false, .int .i64 0]) ?_ 1 _ rfl; (with_reducible repeat (first | refine blk_drewN ?_ _ | refine blk_drew ?_ | refine blk_alloc ?_ _)); refine blk_put (cs := #[.int .i64 0, .bool false, .int .i64 0]) ?_ 0 _ rfl; (with_reducible repeat (first | refine blk_drewN ?_ _ | refine blk_drew ?_ | refine blk_alloc ?_ _)); exact BK403.out⟩, ⟨q27_⟩, ⟨q31_⟩, ⟨q22_⟩⟩
  ·replace c10 := Bool.eq_false_iff.mpr c10
   subst c10
   replace H : ((spec_l1Rd_once.f s0_0 t402 6).bind fun bt404 => (spec_l1Rd_plain.j0 k bt404.1 s0_0 bt404.2 t399 false t401)) = some (r1, r2, r3, r4) := by rw [if_neg (show ¬ (false = true) by decide)] at H; exact H
   replace H := Option.bind_eq_some_iff.mp H
   obtain ⟨⟨t404, t405⟩, A140, H⟩ := H
   replace H : (spec_l1Rd_plain.j0 k t404 s0_0 t405 t399 false t401) = some (r1, r2, r3, r4) := H
   have A14 := Aside0.mk A140
   clear A140
   have H' := Aside0.mk H
   clear H
   have hnb15 := NB403_398.out
   have hnc15 := NB398_403.out
   have hnb16 := NB403_0.out
   have hnc16 := NB0_403.out
   have hcz17_0 : w6.cell? ⟨gb403, 0, none⟩ = some (.int .i64 0) := bz_ BK403 0
   have hcz17_1 : w6.cell? ⟨gb403, 1, none⟩ = some (.bool false) := bz_ BK403 1
   have hcz17_2 : w6.cell? ⟨gb403, 2, none⟩ = some (.int .i64 0) := bz_ BK403 2
   have hfz17_0 := blk_frozen BK403.out 0
   have hfz17_1 := blk_frozen BK403.out 1
   have hfz17_2 := blk_frozen BK403.out 2
   go_wp2_with (first | (go_at_call 56; (with_reducible refine (spec_l1Rd_once.calls g s0_0 t402 6 t404 t405 w0 _ ?side1 ?side2 A14.out).mono ?_); (case side1 => exact q129_); (case side2 => exact q126_); rintro e w18 ⟨rfl, hi, hb, hk⟩; have n0_ := Aside0.mk (KeepBut.blk hk (g' := gb398) (o := .cells #[.int .i64 0, .bool false, .int .i64 0] 85 (0, 0)) q7_ NB398_0.out (by simp)); have n1_ := Aside0.mk (KeepBut.blk hk (g' := gb403) (o := .cells #[.int .i64 t399, .bool false, .int .i64 t401] 85 (0, 0)) (by (with_reducible repeat (first | refine blk_drewN ?_ _ | refine blk_drew ?_ | refine blk_alloc ?_ _)); refine blk_put (cs := #[.int .i64 t399, .bool false, .int .i64 0]) ?_ 2 _ rfl; (with_reducible repeat (first | refine blk_drewN ?_ _ | refine blk_drew ?_ | refine blk_alloc ?_ _)); refine blk_put (cs := #[.int .i64 t399, .bool false, .int .i64 0]) ?_ 1 _ rfl; (with_reducible repeat (first | refine blk_drewN ?_ _ | refine blk_drew ?_ | refine blk_alloc ?_ _)); refine blk_put (cs := #[.int .i64 0, .bool false, .int .i64 0]) ?_ 0 _ rfl; (with_reducible repeat (first | refine blk_drewN ?_ _ | refine blk_drew ?_ | refine blk_alloc ?_ _)); exact BK403.out) NB403_0.out (by simp)); have n2_ := Aside0.mk (KeepBut.trans q31_ hk (.inl rfl)); have n3_ := Aside0.mk (hb); have n4_ := Aside0.mk (hi); clear BK398; clear BK403; clear HK; clear HB; clear HI0; have BK398 := n0_; have BK403 := n1_; have HK := n2_; have HB := n3_; have HI0 := n4_; clear n0_ n1_ n2_ n3_ n4_; (try clear hb); (try clear hk); (try clear hi)))
   go_meet
   case rel => exact ⟨_, (t404), (t405), q101_, H', ⟨q121_⟩, ⟨q89_⟩, ⟨q90_⟩, ⟨q27_⟩, ⟨q31_⟩, ⟨q22_⟩⟩
 case rest =>
  clear HC3
  try clear c1
  try clear p2
  try clear p6
  try clear c7
  try clear c8
  try clear c10
  try clear c11
  try clear c12
  try clear c15
  try clear c16
  try clear hcz13_0 hcz13_1 hcz13_2
  try clear hcz17_0 hcz17_1 hcz17_2
  try clear hcz9_0 hcz9_1 hcz9_2
  try clear hfz13_0 hfz13_1 hfz13_2
  try clear hfz17_0 hfz17_1 hfz17_2
  try clear hfz9_0 hfz9_1 hfz9_2
  obtain ⟨kq, x11_2, x1001_2, rfl, HA, HJ2, BK398, BK403, HI0, HK, HB⟩ := hcut
  cases kq with
  | zero => exact absurd HA.out (by simp [spec_l1Rd_plain.j0])
  | succ kj2 =>
   have H := HA.out
   clear HA
   simp only [spec_l1Rd_plain.j0] at H
   by_cases c19 : x11_2 = true
   ·subst c19
    replace H : (some (t399, t400, t401, x1001_2)) = some (r1, r2, r3, r4) := by rw [if_pos rfl] at H; exact H
    simp only [Option.some.injEq, Prod.mk.injEq] at H
    obtain ⟨rfl, rfl, rfl, rfl⟩ := H
    have hnb20 := NB403_398.out
    have hnc20 := NB398_403.out
    have hnb21 := NB403_0.out
    have hnc21 := NB0_403.out
    have hcz22_0 : wc.cell? ⟨gb403, 0, none⟩ = some (.int .i64 t399) := bz_ BK403 0
    have hcz22_1 : wc.cell? ⟨gb403, 1, none⟩ = some (.bool t400) := bz_ BK403 1
    have hcz22_2 : wc.cell? ⟨gb403, 2, none⟩ = some (.int .i64 t401) := bz_ BK403 2
    have hfz22_0 := blk_frozen BK403.out 0
    have hfz22_1 := blk_frozen BK403.out 1
    have hfz22_2 := blk_frozen BK403.out 2
    have hnb23 := NB398_0.out
    have hnc23 := NB0_398.out
    have hcz24_0 : wc.cell? ⟨gb398, 0, none⟩ = some (.int .i64 0) := bz_ BK398 0
    have hcz24_1 : wc.cell? ⟨gb398, 1, none⟩ = some (.bool false) := bz_ BK398 1
    have hcz24_2 : wc.cell? ⟨gb398, 2, none⟩ = some (.int .i64 0) := bz_ BK398 2
    have hfz24_0 := blk_frozen BK398.out 0
    have hfz24_1 := blk_frozen BK398.out 1
    have hfz24_2 := blk_frozen BK398.out 2
    go_wp2
    refine bodyPost_ret (results_cell_row rfl _ _ gb398 85 #[.int .i64 t399, .bool t400, .int .i64 t401] (0, 0) _ rfl q6_ Try.underlying85 rfl (by kernel_rfl)) rfl ?_
    exact ⟨q76_, q27_, q22_, q31_⟩
   ·replace c19 := Bool.eq_false_iff.mpr c19
    subst c19
    replace H : ((spec_l1Rd_below.f s0_0 x1001_2 10).bind fun bt406 => (if bt406.1 = 0 then ((spec_l1Rd_byte.f s0_0 bt406.2).bind fun bt408 => (some (62, false, bt408.1, bt408.2))) else (if bt406.1 = 1 then ((some (([49152, 65408, 256, 128, 40960] : List Int) : List Int)).bind fun y410 => ((spec_l1Rd_below.f s0_0 bt406.2 5).bind fun bt413 => (if 0 ≤ bt413.1 then (if bt413.1 < (y410.length : Int) then (some (33, false, rd y410 bt413.1, bt413.2)) else (none)) else (none)))) else (if bt406.1 = 2 then (some (119, false, 0, bt406.2)) else (if bt406.1 = 3 then (some (224, false, 1, bt406.2)) else (if bt406.1 = 4 then ((some (([49152, 65281, 130, 10, 300, 40961] : List Int) : List Int)).bind fun y416 => ((spec_l1Rd_below.f s0_0 bt406.2 6).bind fun bt419 => (if 0 ≤ bt419.1 then (if bt419.1 < (y416.length : Int) then (some (234, false, rd y416 bt419.1, bt419.2)) else (none)) else (none)))) else (if t399 ≥ 192 then (if t401 > 511 then (some (t399, t400, Int.tmod t401 40, bt406.2)) else (some (t399, t400, t401, bt406.2))) else (some (t399, t400, t401, bt406.2))))))))) = some (r1, r2, r3, r4) := by rw [if_neg (show ¬ (false = true) by decide)] at H; exact H
    replace H := Option.bind_eq_some_iff.mp H
    obtain ⟨⟨t406, t407⟩, A250, H⟩ := H
    replace H : (if t406 = 0 then ((spec_l1Rd_byte.f s0_0 t407).bind fun bt408 => (some (62, false, bt408.1, bt408.2))) else (if t406 = 1 then ((some (([49152, 65408, 256, 128, 40960] : List Int) : List Int)).bind fun y410 => ((spec_l1Rd_below.f s0_0 t407 5).bind fun bt413 => (if 0 ≤ bt413.1 then (if bt413.1 < (y410.length : Int) then (some (33, false, rd y410 bt413.1, bt413.2)) else (none)) else (none)))) else (if t406 = 2 then (some (119, false, 0, t407)) else (if t406 = 3 then (some (224, false, 1, t407)) else (if t406 = 4 then ((some (([49152, 65281, 130, 10, 300, 40961] : List Int) : List Int)).bind fun y416 => ((spec_l1Rd_below.f s0_0 t407 6).bind fun bt419 => (if 0 ≤ bt419.1 then (if bt419.1 < (y416.length : Int) then (some (234, false, rd y416 bt419.1, bt419.2)) else (none)) else (none)))) else (if t399 ≥ 192 then (if t401 > 511 then (some (t399, t400, Int.tmod t401 40, t407)) else (some (t399, t400, t401, t407))) else (some (t399, t400, t401, t407)))))))) = some (r1, r2, r3, r4) := H
    have A25 := Aside0.mk A250
    clear A250
    by_cases c26 : t406 = 0
    ·rw [if_pos c26] at H
     have c26b0 : (t406 == 0) = true := beq_iff_eq.mpr c26
     have c26b1 : (t406 != 0) = false := bne_eq_false_iff_eq.mpr c26
     clear c26
     replace H := Option.bind_eq_some_iff.mp H
     obtain ⟨⟨t408, t409⟩, A270, H⟩ := H
     replace H : (some (62, false, t408, t409)) = some (r1, r2, r3, r4) := H
     have A27 := Aside0.mk A270
     clear A270
     simp only [Option.some.injEq, Prod.mk.injEq] at H
     obtain ⟨rfl, rfl, rfl, rfl⟩ := H
     go_wp2_with (first | ((with_reducible refine gate_callee (f := 37) rfl ?_); refine goesL_ (some 14) rfl rfl Try.func37 (by kernel_rfl) rfl #[.pointer (some ⟨g, 0, none⟩), .int .i64 10] rfl q74_ ?_; (with_reducible refine (spec_l1Rd_below.calls g s0_0 x1001_2 10 t406 t407 w0 _ ?side1 ?side2 A25.out).mono ?_); (case side1 => exact q129_); (case side2 => exact q126_); rintro e w28 ⟨rfl, hi, hb, hk⟩; refine ⟨_, rfl, ?_⟩; have n0_ := Aside0.mk (KeepBut.blk hk (g' := gb398) (o := .cells #[.int .i64 0, .bool false, .int .i64 0] 85 (0, 0)) q89_ NB398_0.out (by simp)); have n1_ := Aside0.mk (KeepBut.blk hk (g' := gb403) (o := .cells #[.int .i64 t399, .bool t400, .int .i64 t401] 85 (0, 0)) q90_ NB403_0.out (by simp)); have n2_ := Aside0.mk (KeepBut.trans q31_ hk (.inl rfl)); have n3_ := Aside0.mk (hb); have n4_ := Aside0.mk (hi); clear BK398; clear BK403; clear HK; clear HB; clear HI0; have BK398 := n0_; have BK403 := n1_; have HK := n2_; have HB := n3_; have HI0 := n4_; clear n0_ n1_ n2_ n3_ n4_; (try clear hb); (try clear hk); (try clear hi)) | ((with_reducible refine gate_callee (f := 58) rfl ?_); refine goesL_ (some 18) rfl rfl Try.func58 (by kernel_rfl) rfl #[.pointer (some ⟨g, 0, none⟩)] rfl q74_ ?_; (with_reducible refine (spec_l1Rd_byte.calls g s0_0 t407 t408 t409 w0 _ ?side1 ?side2 A27.out).mono ?_); (case side1 => exact q129_); (case side2 => exact q126_); rintro e w29 ⟨rfl, hi, hb, hk⟩; refine ⟨_, rfl, ?_⟩; have n0_ := Aside0.mk (KeepBut.blk hk (g' := gb398) (o := .cells #[.int .i64 0, .bool false, .int .i64 0] 85 (0, 0)) q89_ NB398_0.out (by simp)); have n1_ := Aside0.mk (KeepBut.blk hk (g' := gb403) (o := .cells #[.int .i64 t399, .bool t400, .int .i64 t401] 85 (0, 0)) q90_ NB403_0.out (by simp)); have n2_ := Aside0.mk (KeepBut.trans q31_ hk (.inl rfl)); have n3_ := Aside0.mk (hb); have n4_ := Aside0.mk (hi); clear BK398; clear BK403; clear HK; clear HB; clear HI0; have BK398 := n0_; have BK403 := n1_; have HK := n2_; have HB := n3_; have HI0 := n4_; clear n0_ n1_ n2_ n3_ n4_; (try clear hb); (try clear hk); (try clear hi); have hnb30 := NB398_403.out; have hnc30 := NB403_398.out; have hnb31 := NB398_0.out; have hnc31 := NB0_398.out; have hcz32_0 : w29.cell? ⟨gb398, 0, none⟩ = some (.int .i64 0) := (blk_cell BK398.out 0).trans rfl; have hcz32_1 : w29.cell? ⟨gb398, 1, none⟩ = some (.bool false) := (blk_cell BK398.out 1).trans rfl; have hcz32_2 : w29.cell? ⟨gb398, 2, none⟩ = some (.int .i64 0) := (blk_cell BK398.out 2).trans rfl; have hfz32_0 := blk_frozen BK398.out 0; have hfz32_1 := blk_frozen BK398.out 1; have hfz32_2 := blk_frozen BK398.out 2))
     refine bodyPost_ret (results_cell_row rfl _ _ gb398 85 #[.int .i64 62, .bool false, .int .i64 t408] (0, 0) _ rfl (by (with_reducible repeat (first | refine blk_drewN ?_ _ | refine blk_drew ?_ | refine blk_alloc ?_ _)); refine blk_put (cs := #[.int .i64 62, .bool false, .int .i64 0]) ?_ 2 _ rfl; (with_reducible repeat (first | refine blk_drewN ?_ _ | refine blk_drew ?_ | refine blk_alloc ?_ _)); refine blk_put (cs := #[.int .i64 62, .bool false, .int .i64 0]) ?_ 1 _ rfl; (with_reducible repeat (first | refine blk_drewN ?_ _ | refine blk_drew ?_ | refine blk_alloc ?_ _)); refine blk_put (cs := #[.int .i64 0, .bool false, .int .i64 0]) ?_ 0 _ rfl; (with_reducible repeat (first | refine blk_drewN ?_ _ | refine blk_drew ?_ | refine blk_alloc ?_ _)); exact BK398.out) Try.underlying85 rfl (by kernel_rfl)) rfl ?_
     exact ⟨q76_, q27_, q22_, q31_⟩
    ·rw [if_neg c26] at H
     have c26b0 : (t406 == 0) = false := beq_eq_false_iff_ne.mpr c26
     have c26b1 : (t406 != 0) = true := bne_iff_ne.mpr c26
     by_cases c33 : t406 = 1
     ·rw [if_pos c33] at H
      have c33b0 : (t406 == 1) = true := beq_iff_eq.mpr c33
      have c33b1 : (t406 != 1) = false := bne_eq_false_iff_eq.mpr c33
      clear c33
      obtain ⟨y410, hy410⟩ : ∃ y_ : List Int, y_ = (([49152, 65408, 256, 128, 40960] : List Int)) := ⟨_, rfl⟩
      replace H : ((spec_l1Rd_below.f s0_0 t407 5).bind fun bt413 => (if 0 ≤ bt413.1 then (if bt413.1 < (y410.length : Int) then (some (33, false, rd y410 bt413.1, bt413.2)) else (none)) else (none))) = some (r1, r2, r3, r4) := by first | (rw [hy410]; with_reducible exact H) | (have H2_ := (Option.bind_some _ _).symm.trans H; rw [hy410]; with_reducible exact H2_) | (have H2_ := (Option.bind_some _ _).symm.trans H; with_reducible exact H2_) | with_reducible exact H | (rw [hy410]; exact H) | exact H
      have Ny410 := Aside0.mk hy410
      clear hy410
      replace H := Option.bind_eq_some_iff.mp H
      obtain ⟨⟨t413, t414⟩, A340, H⟩ := H
      replace H : (if 0 ≤ t413 then (if t413 < (y410.length : Int) then (some (33, false, rd y410 t413, t414)) else (none)) else (none)) = some (r1, r2, r3, r4) := H
      have A34 := Aside0.mk A340
      clear A340
      by_cases c35 : 0 ≤ t413
      ·rw [if_pos c35] at H
       have c35b0 : decide (0 ≤ t413) = true := decide_eq_true c35
       clear c35
       by_cases c36 : t413 < (y410.length : Int)
       ·rw [if_pos c36] at H
        have c36b0 : decide (t413 < (y410.length : Int)) = true := decide_eq_true c36
        clear c36
        simp only [Option.some.injEq, Prod.mk.injEq] at H
        obtain ⟨rfl, rfl, rfl, rfl⟩ := H
        go_wp2_with (first | ((with_reducible refine gate_callee (f := 37) rfl ?_); refine goesL_ (some 14) rfl rfl Try.func37 (by kernel_rfl) rfl #[.pointer (some ⟨g, 0, none⟩), .int .i64 10] rfl q74_ ?_; (with_reducible refine (spec_l1Rd_below.calls g s0_0 x1001_2 10 t406 t407 w0 _ ?side1 ?side2 A25.out).mono ?_); (case side1 => exact q129_); (case side2 => exact q126_); rintro e w37 ⟨rfl, hi, hb, hk⟩; refine ⟨_, rfl, ?_⟩; have n0_ := Aside0.mk (KeepBut.blk hk (g' := gb398) (o := .cells #[.int .i64 0, .bool false, .int .i64 0] 85 (0, 0)) q89_ NB398_0.out (by simp)); have n1_ := Aside0.mk (KeepBut.blk hk (g' := gb403) (o := .cells #[.int .i64 t399, .bool t400, .int .i64 t401] 85 (0, 0)) q90_ NB403_0.out (by simp)); have n2_ := Aside0.mk (KeepBut.trans q31_ hk (.inl rfl)); have n3_ := Aside0.mk (hb); have n4_ := Aside0.mk (hi); clear BK398; clear BK403; clear HK; clear HB; clear HI0; have BK398 := n0_; have BK403 := n1_; have HK := n2_; have HB := n3_; have HI0 := n4_; clear n0_ n1_ n2_ n3_ n4_; (try clear hb); (try clear hk); (try clear hi)) | ((with_reducible refine gate_dst (N := 22) rfl ?_); refine Kd.R_lit (Kd.int .i64) _ 2 ?hg (N := 22) ?hd (xs := ([49152, 65408, 256, 128, 40960] : List Int)) (inner := [.int .i64 49152, .int .i64 65408, .int .i64 256, .int .i64 128, .int .i64 40960]) (ok := fun _ => True) (okp := fun _ => True) ?hr ?hp (fun _ hk => hk) trivial (Below.refl _ _) (Nat.le_refl _) (by simp) ?_; (case hd => rfl); (case hg => rfl); (case hr => exact q138_); (case hp => exact (Reps.one (show Kd.M (Kd.int .i64) _ _ _ 49152 [.int .i64 49152] from rfl) (Reps.one (show Kd.M (Kd.int .i64) _ _ _ 65408 [.int .i64 65408] from rfl) (Reps.one (show Kd.M (Kd.int .i64) _ _ _ 256 [.int .i64 256] from rfl) (Reps.one (show Kd.M (Kd.int .i64) _ _ _ 128 [.int .i64 128] from rfl) (Reps.one (show Kd.M (Kd.int .i64) _ _ _ 40960 [.int .i64 40960] from rfl) (Reps.none _ _))))))); intro v411 w38 ho39 hb hg_ hnew_; clear hg_ hnew_; (first | rw [← Ny410.out] at ho39 | (simp only [Int.reduceToNat] at ho39; rw [← Ny410.out] at ho39)); have n0_ := Aside0.mk (Kd.R_lower ho39 (keep_size (w := w) (g := g) (row := none) q31_)); have n1_ := Aside0.mk (blk_below (g := gb398) (o := .cells #[.int .i64 0, .bool false, .int .i64 0] 85 (0, 0)) q89_ hb); have n2_ := Aside0.mk (blk_below (g := gb403) (o := .cells #[.int .i64 t399, .bool t400, .int .i64 t401] 85 (0, 0)) q90_ hb); have n3_ := Aside0.mk (IsS78.below q27_ hb); have n4_ := Aside0.mk (KeepBut.trans q31_ (KeepBut.of_below hb g none) (.inl rfl)); have n5_ := Aside0.mk (below_step q22_ hb); clear BK398; clear BK403; clear HI0; clear HK; clear HB; have HO412 := n0_; have BK398 := n1_; have BK403 := n2_; have HI0 := n3_; have HK := n4_; have HB := n5_; clear n0_ n1_ n2_ n3_ n4_ n5_; clear hb ho39) | ((with_reducible refine gate_callee (f := 37) rfl ?_); refine goesL_ (some 24) rfl rfl Try.func37 (by kernel_rfl) rfl #[.pointer (some ⟨g, 0, none⟩), .int .i64 5] rfl q74_ ?_; (with_reducible refine (spec_l1Rd_below.calls g s0_0 t407 5 t413 t414 w0 _ ?side1 ?side2 A34.out).mono ?_); (case side1 => exact q129_); (case side2 => exact q126_); rintro e w40 ⟨rfl, hi, hb, hk⟩; refine ⟨_, rfl, ?_⟩; have n0_ := Aside0.mk (KeepBut.blk hk (g' := gb398) (o := .cells #[.int .i64 0, .bool false, .int .i64 0] 85 (0, 0)) q89_ NB398_0.out (by simp)); have n1_ := Aside0.mk (KeepBut.blk hk (g' := gb403) (o := .cells #[.int .i64 t399, .bool t400, .int .i64 t401] 85 (0, 0)) q90_ NB403_0.out (by simp)); have n2_ := Aside0.mk (Kd.R_mono (Kd.R_keep (IsS78.apart (show IsS78 w0 _ g s0_0 t407 from by repeat (first | (with_reducible first | exact HI0.out | apply IsS78.alloc | apply IsS78.drewN | apply IsS78.drew | apply IsS78.set_1 | refine IsS78.far ?_ NB0_398.out _ | refine IsS78.far ?_ NB0_403.out _) | exact HI0.out)) (by (with_reducible repeat (first | apply Kd.R_alloc | apply Kd.R_drewN | apply Kd.R_drew)); exact HO412.out) (by decide)) hk (fun _ h => h.2)) (fun _ h => h.1)); have n3_ := Aside0.mk (KeepBut.trans q31_ hk (.inl rfl)); have n4_ := Aside0.mk (hb); have n5_ := Aside0.mk (hi); clear BK398; clear BK403; clear HO412; clear HK; clear HB; clear HI0; have BK398 := n0_; have BK403 := n1_; have HO412 := n2_; have HK := n3_; have HB := n4_; have HI0 := n5_; clear n0_ n1_ n2_ n3_ n4_ n5_; (try clear hb); (try clear hk); (try clear hi); obtain ⟨Ao41, co41, eo41⟩ := Kd.R_slice HO412.out; subst eo41; have p415 : 0 ≤ (t413 : Int) := of_decide_eq_true q109_; have q415 : t413 < (y410.length : Int) := of_decide_eq_true q109_; obtain ⟨ad415, e415, hx415_0⟩ := Kd.at_int (Kd.R_reads' HO412.out).2.2 t413 p415 q415; cases e415; replace p415 := eq_true p415; replace q415 := eq_true q415; have hnb42 := NB398_403.out; have hnc42 := NB403_398.out; have hnb43 := NB398_0.out; have hnc43 := NB0_398.out; have hcz44_0 : w40.cell? ⟨gb398, 0, none⟩ = some (.int .i64 0) := (blk_cell BK398.out 0).trans rfl; have hcz44_1 : w40.cell? ⟨gb398, 1, none⟩ = some (.bool false) := (blk_cell BK398.out 1).trans rfl; have hcz44_2 : w40.cell? ⟨gb398, 2, none⟩ = some (.int .i64 0) := (blk_cell BK398.out 2).trans rfl; have hfz44_0 := blk_frozen BK398.out 0; have hfz44_1 := blk_frozen BK398.out 1; have hfz44_2 := blk_frozen BK398.out 2))
        refine bodyPost_ret (results_cell_row rfl _ _ gb398 85 #[.int .i64 33, .bool false, .int .i64 (rd y410 t413)] (0, 0) _ rfl (by (with_reducible repeat (first | refine blk_drewN ?_ _ | refine blk_drew ?_ | refine blk_alloc ?_ _)); refine blk_put (cs := #[.int .i64 33, .bool false, .int .i64 0]) ?_ 2 _ rfl; (with_reducible repeat (first | refine blk_drewN ?_ _ | refine blk_drew ?_ | refine blk_alloc ?_ _)); refine blk_put (cs := #[.int .i64 33, .bool false, .int .i64 0]) ?_ 1 _ rfl; (with_reducible repeat (first | refine blk_drewN ?_ _ | refine blk_drew ?_ | refine blk_alloc ?_ _)); refine blk_put (cs := #[.int .i64 0, .bool false, .int .i64 0]) ?_ 0 _ rfl; (with_reducible repeat (first | refine blk_drewN ?_ _ | refine blk_drew ?_ | refine blk_alloc ?_ _)); exact BK398.out) Try.underlying85 rfl (by kernel_rfl)) rfl ?_
        exact ⟨q76_, q27_, q22_, q31_⟩
       ·rw [if_neg c36] at H
        exact absurd H (by simp)
      ·rw [if_neg c35] at H
       exact absurd H (by simp)
     ·rw [if_neg c33] at H
      have c33b0 : (t406 == 1) = false := beq_eq_false_iff_ne.mpr c33
      have c33b1 : (t406 != 1) = true := bne_iff_ne.mpr c33
      by_cases c45 : t406 = 2
      ·rw [if_pos c45] at H
       have c45b0 : (t406 == 2) = true := beq_iff_eq.mpr c45
       have c45b1 : (t406 != 2) = false := bne_eq_false_iff_eq.mpr c45
       clear c45
       simp only [Option.some.injEq, Prod.mk.injEq] at H
       obtain ⟨rfl, rfl, rfl, rfl⟩ := H
       go_wp2_with (first | ((with_reducible refine gate_callee (f := 37) rfl ?_); refine goesL_ (some 14) rfl rfl Try.func37 (by kernel_rfl) rfl #[.pointer (some ⟨g, 0, none⟩), .int .i64 10] rfl q74_ ?_; (with_reducible refine (spec_l1Rd_below.calls g s0_0 x1001_2 10 t406 t407 w0 _ ?side1 ?side2 A25.out).mono ?_); (case side1 => exact q129_); (case side2 => exact q126_); rintro e w46 ⟨rfl, hi, hb, hk⟩; refine ⟨_, rfl, ?_⟩; have n0_ := Aside0.mk (KeepBut.blk hk (g' := gb398) (o := .cells #[.int .i64 0, .bool false, .int .i64 0] 85 (0, 0)) q89_ NB398_0.out (by simp)); have n1_ := Aside0.mk (KeepBut.blk hk (g' := gb403) (o := .cells #[.int .i64 t399, .bool t400, .int .i64 t401] 85 (0, 0)) q90_ NB403_0.out (by simp)); have n2_ := Aside0.mk (KeepBut.trans q31_ hk (.inl rfl)); have n3_ := Aside0.mk (hb); have n4_ := Aside0.mk (hi); clear BK398; clear BK403; clear HK; clear HB; clear HI0; have BK398 := n0_; have BK403 := n1_; have HK := n2_; have HB := n3_; have HI0 := n4_; clear n0_ n1_ n2_ n3_ n4_; (try clear hb); (try clear hk); (try clear hi); have hnb47 := NB398_403.out; have hnc47 := NB403_398.out; have hnb48 := NB398_0.out; have hnc48 := NB0_398.out; have hcz49_0 : w46.cell? ⟨gb398, 0, none⟩ = some (.int .i64 0) := (blk_cell BK398.out 0).trans rfl; have hcz49_1 : w46.cell? ⟨gb398, 1, none⟩ = some (.bool false) := (blk_cell BK398.out 1).trans rfl; have hcz49_2 : w46.cell? ⟨gb398, 2, none⟩ = some (.int .i64 0) := (blk_cell BK398.out 2).trans rfl; have hfz49_0 := blk_frozen BK398.out 0; have hfz49_1 := blk_frozen BK398.out 1; have hfz49_2 := blk_frozen BK398.out 2))
       refine bodyPost_ret (results_cell_row rfl _ _ gb398 85 #[.int .i64 119, .bool false, .int .i64 0] (0, 0) _ rfl (by (with_reducible repeat (first | refine blk_drewN ?_ _ | refine blk_drew ?_ | refine blk_alloc ?_ _)); refine blk_put (cs := #[.int .i64 119, .bool false, .int .i64 0]) ?_ 2 _ rfl; (with_reducible repeat (first | refine blk_drewN ?_ _ | refine blk_drew ?_ | refine blk_alloc ?_ _)); refine blk_put (cs := #[.int .i64 119, .bool false, .int .i64 0]) ?_ 1 _ rfl; (with_reducible repeat (first | refine blk_drewN ?_ _ | refine blk_drew ?_ | refine blk_alloc ?_ _)); refine blk_put (cs := #[.int .i64 0, .bool false, .int .i64 0]) ?_ 0 _ rfl; (with_reducible repeat (first | refine blk_drewN ?_ _ | refine blk_drew ?_ | refine blk_alloc ?_ _)); exact BK398.out) Try.underlying85 rfl (by kernel_rfl)) rfl ?_
       exact ⟨q76_, q27_, q22_, q31_⟩
      ·rw [if_neg c45] at H
       have c45b0 : (t406 == 2) = false := beq_eq_false_iff_ne.mpr c45
       have c45b1 : (t406 != 2) = true := bne_iff_ne.mpr c45
       by_cases c50 : t406 = 3
       ·rw [if_pos c50] at H
        have c50b0 : (t406 == 3) = true := beq_iff_eq.mpr c50
        have c50b1 : (t406 != 3) = false := bne_eq_false_iff_eq.mpr c50
        clear c50
        simp only [Option.some.injEq, Prod.mk.injEq] at H
        obtain ⟨rfl, rfl, rfl, rfl⟩ := H
        go_wp2_with (first | ((with_reducible refine gate_callee (f := 37) rfl ?_); refine goesL_ (some 14) rfl rfl Try.func37 (by kernel_rfl) rfl #[.pointer (some ⟨g, 0, none⟩), .int .i64 10] rfl q74_ ?_; (with_reducible refine (spec_l1Rd_below.calls g s0_0 x1001_2 10 t406 t407 w0 _ ?side1 ?side2 A25.out).mono ?_); (case side1 => exact q129_); (case side2 => exact q126_); rintro e w51 ⟨rfl, hi, hb, hk⟩; refine ⟨_, rfl, ?_⟩; have n0_ := Aside0.mk (KeepBut.blk hk (g' := gb398) (o := .cells #[.int .i64 0, .bool false, .int .i64 0] 85 (0, 0)) q89_ NB398_0.out (by simp)); have n1_ := Aside0.mk (KeepBut.blk hk (g' := gb403) (o := .cells #[.int .i64 t399, .bool t400, .int .i64 t401] 85 (0, 0)) q90_ NB403_0.out (by simp)); have n2_ := Aside0.mk (KeepBut.trans q31_ hk (.inl rfl)); have n3_ := Aside0.mk (hb); have n4_ := Aside0.mk (hi); clear BK398; clear BK403; clear HK; clear HB; clear HI0; have BK398 := n0_; have BK403 := n1_; have HK := n2_; have HB := n3_; have HI0 := n4_; clear n0_ n1_ n2_ n3_ n4_; (try clear hb); (try clear hk); (try clear hi); have hnb52 := NB398_403.out; have hnc52 := NB403_398.out; have hnb53 := NB398_0.out; have hnc53 := NB0_398.out; have hcz54_0 : w51.cell? ⟨gb398, 0, none⟩ = some (.int .i64 0) := (blk_cell BK398.out 0).trans rfl; have hcz54_1 : w51.cell? ⟨gb398, 1, none⟩ = some (.bool false) := (blk_cell BK398.out 1).trans rfl; have hcz54_2 : w51.cell? ⟨gb398, 2, none⟩ = some (.int .i64 0) := (blk_cell BK398.out 2).trans rfl; have hfz54_0 := blk_frozen BK398.out 0; have hfz54_1 := blk_frozen BK398.out 1; have hfz54_2 := blk_frozen BK398.out 2))
        refine bodyPost_ret (results_cell_row rfl _ _ gb398 85 #[.int .i64 224, .bool false, .int .i64 1] (0, 0) _ rfl (by (with_reducible repeat (first | refine blk_drewN ?_ _ | refine blk_drew ?_ | refine blk_alloc ?_ _)); refine blk_put (cs := #[.int .i64 224, .bool false, .int .i64 0]) ?_ 2 _ rfl; (with_reducible repeat (first | refine blk_drewN ?_ _ | refine blk_drew ?_ | refine blk_alloc ?_ _)); refine blk_put (cs := #[.int .i64 224, .bool false, .int .i64 0]) ?_ 1 _ rfl; (with_reducible repeat (first | refine blk_drewN ?_ _ | refine blk_drew ?_ | refine blk_alloc ?_ _)); refine blk_put (cs := #[.int .i64 0, .bool false, .int .i64 0]) ?_ 0 _ rfl; (with_reducible repeat (first | refine blk_drewN ?_ _ | refine blk_drew ?_ | refine blk_alloc ?_ _)); exact BK398.out) Try.underlying85 rfl (by kernel_rfl)) rfl ?_
        exact ⟨q76_, q27_, q22_, q31_⟩
       ·rw [if_neg c50] at H
        have c50b0 : (t406 == 3) = false := beq_eq_false_iff_ne.mpr c50
        have c50b1 : (t406 != 3) = true := bne_iff_ne.mpr c50
        by_cases c55 : t406 = 4
        ·rw [if_pos c55] at H
         have c55b0 : (t406 == 4) = true := beq_iff_eq.mpr c55
         have c55b1 : (t406 != 4) = false := bne_eq_false_iff_eq.mpr c55
         clear c55
         obtain ⟨y416, hy416⟩ : ∃ y_ : List Int, y_ = (([49152, 65281, 130, 10, 300, 40961] : List Int)) := ⟨_, rfl⟩
         replace H : ((spec_l1Rd_below.f s0_0 t407 6).bind fun bt419 => (if 0 ≤ bt419.1 then (if bt419.1 < (y416.length : Int) then (some (234, false, rd y416 bt419.1, bt419.2)) else (none)) else (none))) = some (r1, r2, r3, r4) := by first | (rw [hy416]; with_reducible exact H) | (have H2_ := (Option.bind_some _ _).symm.trans H; rw [hy416]; with_reducible exact H2_) | (have H2_ := (Option.bind_some _ _).symm.trans H; with_reducible exact H2_) | with_reducible exact H | (rw [hy416]; exact H) | exact H
         have Ny416 := Aside0.mk hy416
         clear hy416
         replace H := Option.bind_eq_some_iff.mp H
         obtain ⟨⟨t419, t420⟩, A560, H⟩ := H
         replace H : (if 0 ≤ t419 then (if t419 < (y416.length : Int) then (some (234, false, rd y416 t419, t420)) else (none)) else (none)) = some (r1, r2, r3, r4) := H
         have A56 := Aside0.mk A560
         clear A560
         by_cases c57 : 0 ≤ t419
         ·rw [if_pos c57] at H
          have c57b0 : decide (0 ≤ t419) = true := decide_eq_true c57
          clear c57
          by_cases c58 : t419 < (y416.length : Int)
          ·rw [if_pos c58] at H
           have c58b0 : decide (t419 < (y416.length : Int)) = true := decide_eq_true c58
           clear c58
           simp only [Option.some.injEq, Prod.mk.injEq] at H
           obtain ⟨rfl, rfl, rfl, rfl⟩ := H
           go_wp2_with (first | ((with_reducible refine gate_callee (f := 37) rfl ?_); refine goesL_ (some 14) rfl rfl Try.func37 (by kernel_rfl) rfl #[.pointer (some ⟨g, 0, none⟩), .int .i64 10] rfl q74_ ?_; (with_reducible refine (spec_l1Rd_below.calls g s0_0 x1001_2 10 t406 t407 w0 _ ?side1 ?side2 A25.out).mono ?_); (case side1 => exact q129_); (case side2 => exact q126_); rintro e w59 ⟨rfl, hi, hb, hk⟩; refine ⟨_, rfl, ?_⟩; have n0_ := Aside0.mk (KeepBut.blk hk (g' := gb398) (o := .cells #[.int .i64 0, .bool false, .int .i64 0] 85 (0, 0)) q89_ NB398_0.out (by simp)); have n1_ := Aside0.mk (KeepBut.blk hk (g' := gb403) (o := .cells #[.int .i64 t399, .bool t400, .int .i64 t401] 85 (0, 0)) q90_ NB403_0.out (by simp)); have n2_ := Aside0.mk (KeepBut.trans q31_ hk (.inl rfl)); have n3_ := Aside0.mk (hb); have n4_ := Aside0.mk (hi); clear BK398; clear BK403; clear HK; clear HB; clear HI0; have BK398 := n0_; have BK403 := n1_; have HK := n2_; have HB := n3_; have HI0 := n4_; clear n0_ n1_ n2_ n3_ n4_; (try clear hb); (try clear hk); (try clear hi)) | ((with_reducible refine gate_dst (N := 36) rfl ?_); refine Kd.R_lit (Kd.int .i64) _ 2 ?hg (N := 36) ?hd (xs := ([49152, 65281, 130, 10, 300, 40961] : List Int)) (inner := [.int .i64 49152, .int .i64 65281, .int .i64 130, .int .i64 10, .int .i64 300, .int .i64 40961]) (ok := fun _ => True) (okp := fun _ => True) ?hr ?hp (fun _ hk => hk) trivial (Below.refl _ _) (Nat.le_refl _) (by simp) ?_; (case hd => rfl); (case hg => rfl); (case hr => exact q138_); (case hp => exact (Reps.one (show Kd.M (Kd.int .i64) _ _ _ 49152 [.int .i64 49152] from rfl) (Reps.one (show Kd.M (Kd.int .i64) _ _ _ 65281 [.int .i64 65281] from rfl) (Reps.one (show Kd.M (Kd.int .i64) _ _ _ 130 [.int .i64 130] from rfl) (Reps.one (show Kd.M (Kd.int .i64) _ _ _ 10 [.int .i64 10] from rfl) (Reps.one (show Kd.M (Kd.int .i64) _ _ _ 300 [.int .i64 300] from rfl) (Reps.one (show Kd.M (Kd.int .i64) _ _ _ 40961 [.int .i64 40961] from rfl) (Reps.none _ _)))))))); intro v417 w60 ho61 hb hg_ hnew_; clear hg_ hnew_; (first | rw [← Ny416.out] at ho61 | (simp only [Int.reduceToNat] at ho61; rw [← Ny416.out] at ho61)); have n0_ := Aside0.mk (Kd.R_lower ho61 (keep_size (w := w) (g := g) (row := none) q31_)); have n1_ := Aside0.mk (blk_below (g := gb398) (o := .cells #[.int .i64 0, .bool false, .int .i64 0] 85 (0, 0)) q89_ hb); have n2_ := Aside0.mk (blk_below (g := gb403) (o := .cells #[.int .i64 t399, .bool t400, .int .i64 t401] 85 (0, 0)) q90_ hb); have n3_ := Aside0.mk (IsS78.below q27_ hb); have n4_ := Aside0.mk (KeepBut.trans q31_ (KeepBut.of_below hb g none) (.inl rfl)); have n5_ := Aside0.mk (below_step q22_ hb); clear BK398; clear BK403; clear HI0; clear HK; clear HB; have HO418 := n0_; have BK398 := n1_; have BK403 := n2_; have HI0 := n3_; have HK := n4_; have HB := n5_; clear n0_ n1_ n2_ n3_ n4_ n5_; clear hb ho61) | ((with_reducible refine gate_callee (f := 37) rfl ?_); refine goesL_ (some 38) rfl rfl Try.func37 (by kernel_rfl) rfl #[.pointer (some ⟨g, 0, none⟩), .int .i64 6] rfl q74_ ?_; (with_reducible refine (spec_l1Rd_below.calls g s0_0 t407 6 t419 t420 w0 _ ?side1 ?side2 A56.out).mono ?_); (case side1 => exact q129_); (case side2 => exact q126_); rintro e w62 ⟨rfl, hi, hb, hk⟩; refine ⟨_, rfl, ?_⟩; have n0_ := Aside0.mk (KeepBut.blk hk (g' := gb398) (o := .cells #[.int .i64 0, .bool false, .int .i64 0] 85 (0, 0)) q89_ NB398_0.out (by simp)); have n1_ := Aside0.mk (KeepBut.blk hk (g' := gb403) (o := .cells #[.int .i64 t399, .bool t400, .int .i64 t401] 85 (0, 0)) q90_ NB403_0.out (by simp)); have n2_ := Aside0.mk (Kd.R_mono (Kd.R_keep (IsS78.apart (show IsS78 w0 _ g s0_0 t407 from by repeat (first | (with_reducible first | exact HI0.out | apply IsS78.alloc | apply IsS78.drewN | apply IsS78.drew | apply IsS78.set_1 | refine IsS78.far ?_ NB0_398.out _ | refine IsS78.far ?_ NB0_403.out _) | exact HI0.out)) (by (with_reducible repeat (first | apply Kd.R_alloc | apply Kd.R_drewN | apply Kd.R_drew)); exact HO418.out) (by decide)) hk (fun _ h => h.2)) (fun _ h => h.1)); have n3_ := Aside0.mk (KeepBut.trans q31_ hk (.inl rfl)); have n4_ := Aside0.mk (hb); have n5_ := Aside0.mk (hi); clear BK398; clear BK403; clear HO418; clear HK; clear HB; clear HI0; have BK398 := n0_; have BK403 := n1_; have HO418 := n2_; have HK := n3_; have HB := n4_; have HI0 := n5_; clear n0_ n1_ n2_ n3_ n4_ n5_; (try clear hb); (try clear hk); (try clear hi); obtain ⟨Ao63, co63, eo63⟩ := Kd.R_slice HO418.out; subst eo63; have p421 : 0 ≤ (t419 : Int) := of_decide_eq_true q109_; have q421 : t419 < (y416.length : Int) := of_decide_eq_true q109_; obtain ⟨ad421, e421, hx421_0⟩ := Kd.at_int (Kd.R_reads' HO418.out).2.2 t419 p421 q421; cases e421; replace p421 := eq_true p421; replace q421 := eq_true q421; have hnb64 := NB398_403.out; have hnc64 := NB403_398.out; have hnb65 := NB398_0.out; have hnc65 := NB0_398.out; have hcz66_0 : w62.cell? ⟨gb398, 0, none⟩ = some (.int .i64 0) := (blk_cell BK398.out 0).trans rfl; have hcz66_1 : w62.cell? ⟨gb398, 1, none⟩ = some (.bool false) := (blk_cell BK398.out 1).trans rfl; have hcz66_2 : w62.cell? ⟨gb398, 2, none⟩ = some (.int .i64 0) := (blk_cell BK398.out 2).trans rfl; have hfz66_0 := blk_frozen BK398.out 0; have hfz66_1 := blk_frozen BK398.out 1; have hfz66_2 := blk_frozen BK398.out 2))
           refine bodyPost_ret (results_cell_row rfl _ _ gb398 85 #[.int .i64 234, .bool false, .int .i64 (rd y416 t419)] (0, 0) _ rfl (by (with_reducible repeat (first | refine blk_drewN ?_ _ | refine blk_drew ?_ | refine blk_alloc ?_ _)); refine blk_put (cs := #[.int .i64 234, .bool false, .int .i64 0]) ?_ 2 _ rfl; (with_reducible repeat (first | refine blk_drewN ?_ _ | refine blk_drew ?_ | refine blk_alloc ?_ _)); refine blk_put (cs := #[.int .i64 234, .bool false, .int .i64 0]) ?_ 1 _ rfl; (with_reducible repeat (first | refine blk_drewN ?_ _ | refine blk_drew ?_ | refine blk_alloc ?_ _)); refine blk_put (cs := #[.int .i64 0, .bool false, .int .i64 0]) ?_ 0 _ rfl; (with_reducible repeat (first | refine blk_drewN ?_ _ | refine blk_drew ?_ | refine blk_alloc ?_ _)); exact BK398.out) Try.underlying85 rfl (by kernel_rfl)) rfl ?_
           exact ⟨q76_, q27_, q22_, q31_⟩
          ·rw [if_neg c58] at H
           exact absurd H (by simp)
         ·rw [if_neg c57] at H
          exact absurd H (by simp)
        ·rw [if_neg c55] at H
         have c55b0 : (t406 == 4) = false := beq_eq_false_iff_ne.mpr c55
         have c55b1 : (t406 != 4) = true := bne_iff_ne.mpr c55
         by_cases c67 : t399 ≥ 192
         ·rw [if_pos c67] at H
          have c67b0 : decide (192 ≤ t399) = true := decide_eq_true c67
          clear c67
          by_cases c68 : t401 > 511
          ·rw [if_pos c68] at H
           have c68b0 : decide (511 < t401) = true := decide_eq_true c68
           clear c68
           simp only [Option.some.injEq, Prod.mk.injEq] at H
           obtain ⟨rfl, rfl, rfl, rfl⟩ := H
           go_wp2_with (first | ((with_reducible refine gate_callee (f := 37) rfl ?_); refine goesL_ (some 14) rfl rfl Try.func37 (by kernel_rfl) rfl #[.pointer (some ⟨g, 0, none⟩), .int .i64 10] rfl q74_ ?_; (with_reducible refine (spec_l1Rd_below.calls g s0_0 x1001_2 10 t406 t407 w0 _ ?side1 ?side2 A25.out).mono ?_); (case side1 => exact q129_); (case side2 => exact q126_); rintro e w69 ⟨rfl, hi, hb, hk⟩; refine ⟨_, rfl, ?_⟩; have n0_ := Aside0.mk (KeepBut.blk hk (g' := gb398) (o := .cells #[.int .i64 0, .bool false, .int .i64 0] 85 (0, 0)) q89_ NB398_0.out (by simp)); have n1_ := Aside0.mk (KeepBut.blk hk (g' := gb403) (o := .cells #[.int .i64 t399, .bool t400, .int .i64 t401] 85 (0, 0)) q90_ NB403_0.out (by simp)); have n2_ := Aside0.mk (KeepBut.trans q31_ hk (.inl rfl)); have n3_ := Aside0.mk (hb); have n4_ := Aside0.mk (hi); clear BK398; clear BK403; clear HK; clear HB; clear HI0; have BK398 := n0_; have BK403 := n1_; have HK := n2_; have HB := n3_; have HI0 := n4_; clear n0_ n1_ n2_ n3_ n4_; (try clear hb); (try clear hk); (try clear hi); have hnb70 := NB403_398.out; have hnc70 := NB398_403.out; have hnb71 := NB403_0.out; have hnc71 := NB0_403.out; have hcz72_0 : w69.cell? ⟨gb403, 0, none⟩ = some (.int .i64 t399) := (blk_cell BK403.out 0).trans rfl; have hcz72_1 : w69.cell? ⟨gb403, 1, none⟩ = some (.bool t400) := (blk_cell BK403.out 1).trans rfl; have hcz72_2 : w69.cell? ⟨gb403, 2, none⟩ = some (.int .i64 t401) := (blk_cell BK403.out 2).trans rfl; have hfz72_0 := blk_frozen BK403.out 0; have hfz72_1 := blk_frozen BK403.out 1; have hfz72_2 := blk_frozen BK403.out 2; have hnb73 := NB398_0.out; have hnc73 := NB0_398.out; have hcz74_0 : w69.cell? ⟨gb398, 0, none⟩ = some (.int .i64 0) := (blk_cell BK398.out 0).trans rfl; have hcz74_1 : w69.cell? ⟨gb398, 1, none⟩ = some (.bool false) := (blk_cell BK398.out 1).trans rfl; have hcz74_2 : w69.cell? ⟨gb398, 2, none⟩ = some (.int .i64 0) := (blk_cell BK398.out 2).trans rfl; have hfz74_0 := blk_frozen BK398.out 0; have hfz74_1 := blk_frozen BK398.out 1; have hfz74_2 := blk_frozen BK398.out 2))
           refine bodyPost_ret (results_cell_row rfl _ _ gb398 85 #[.int .i64 t399, .bool t400, .int .i64 (Int.tmod t401 40)] (0, 0) _ rfl (by (with_reducible repeat (first | refine blk_drewN ?_ _ | refine blk_drew ?_ | refine blk_alloc ?_ _)); refine blk_put (cs := #[.int .i64 t399, .bool t400, .int .i64 0]) ?_ 2 _ rfl; (with_reducible repeat (first | refine blk_drewN ?_ _ | refine blk_drew ?_ | refine blk_alloc ?_ _)); refine blk_put (cs := #[.int .i64 t399, .bool false, .int .i64 0]) ?_ 1 _ rfl; (with_reducible repeat (first | refine blk_drewN ?_ _ | refine blk_drew ?_ | refine blk_alloc ?_ _)); refine blk_put (cs := #[.int .i64 0, .bool false, .int .i64 0]) ?_ 0 _ rfl; (with_reducible repeat (first | refine blk_drewN ?_ _ | refine blk_drew ?_ | refine blk_alloc ?_ _)); refine blk_far ?_ NB398_403.out _; (with_reducible repeat (first | refine blk_drewN ?_ _ | refine blk_drew ?_ | refine blk_alloc ?_ _)); exact BK398.out) Try.underlying85 rfl (by kernel_rfl)) rfl ?_
           exact ⟨q76_, q27_, q22_, q31_⟩
          ·rw [if_neg c68] at H
           have c68b0 : decide (511 < t401) = false := decide_eq_false c68
           clear c68
           simp only [Option.some.injEq, Prod.mk.injEq] at H
           obtain ⟨rfl, rfl, rfl, rfl⟩ := H
           go_wp2_with (first | ((with_reducible refine gate_callee (f := 37) rfl ?_); refine goesL_ (some 14) rfl rfl Try.func37 (by kernel_rfl) rfl #[.pointer (some ⟨g, 0, none⟩), .int .i64 10] rfl q74_ ?_; (with_reducible refine (spec_l1Rd_below.calls g s0_0 x1001_2 10 t406 t407 w0 _ ?side1 ?side2 A25.out).mono ?_); (case side1 => exact q129_); (case side2 => exact q126_); rintro e w75 ⟨rfl, hi, hb, hk⟩; refine ⟨_, rfl, ?_⟩; have n0_ := Aside0.mk (KeepBut.blk hk (g' := gb398) (o := .cells #[.int .i64 0, .bool false, .int .i64 0] 85 (0, 0)) q89_ NB398_0.out (by simp)); have n1_ := Aside0.mk (KeepBut.blk hk (g' := gb403) (o := .cells #[.int .i64 t399, .bool t400, .int .i64 t401] 85 (0, 0)) q90_ NB403_0.out (by simp)); have n2_ := Aside0.mk (KeepBut.trans q31_ hk (.inl rfl)); have n3_ := Aside0.mk (hb); have n4_ := Aside0.mk (hi); clear BK398; clear BK403; clear HK; clear HB; clear HI0; have BK398 := n0_; have BK403 := n1_; have HK := n2_; have HB := n3_; have HI0 := n4_; clear n0_ n1_ n2_ n3_ n4_; (try clear hb); (try clear hk); (try clear hi); have hnb76 := NB403_398.out; have hnc76 := NB398_403.out; have hnb77 := NB403_0.out; have hnc77 := NB0_403.out; have hcz78_0 : w75.cell? ⟨gb403, 0, none⟩ = some (.int .i64 t399) := (blk_cell BK403.out 0).trans rfl; have hcz78_1 : w75.cell? ⟨gb403, 1, none⟩ = some (.bool t400) := (blk_cell BK403.out 1).trans rfl; have hcz78_2 : w75.cell? ⟨gb403, 2, none⟩ = some (.int .i64 t401) := (blk_cell BK403.out 2).trans rfl; have hfz78_0 := blk_frozen BK403.out 0; have hfz78_1 := blk_frozen BK403.out 1; have hfz78_2 := blk_frozen BK403.out 2; have hnb79 := NB398_0.out; have hnc79 := NB0_398.out; have hcz80_0 : w75.cell? ⟨gb398, 0, none⟩ = some (.int .i64 0) := (blk_cell BK398.out 0).trans rfl; have hcz80_1 : w75.cell? ⟨gb398, 1, none⟩ = some (.bool false) := (blk_cell BK398.out 1).trans rfl; have hcz80_2 : w75.cell? ⟨gb398, 2, none⟩ = some (.int .i64 0) := (blk_cell BK398.out 2).trans rfl; have hfz80_0 := blk_frozen BK398.out 0; have hfz80_1 := blk_frozen BK398.out 1; have hfz80_2 := blk_frozen BK398.out 2))
           refine bodyPost_ret (results_cell_row rfl _ _ gb398 85 #[.int .i64 t399, .bool t400, .int .i64 t401] (0, 0) _ rfl q6_ Try.underlying85 rfl (by kernel_rfl)) rfl ?_
           exact ⟨q76_, q27_, q22_, q31_⟩
         ·rw [if_neg c67] at H
          have c67b0 : decide (192 ≤ t399) = false := decide_eq_false c67
          clear c67
          simp only [Option.some.injEq, Prod.mk.injEq] at H
          obtain ⟨rfl, rfl, rfl, rfl⟩ := H
          go_wp2_with (first | ((with_reducible refine gate_callee (f := 37) rfl ?_); refine goesL_ (some 14) rfl rfl Try.func37 (by kernel_rfl) rfl #[.pointer (some ⟨g, 0, none⟩), .int .i64 10] rfl q74_ ?_; (with_reducible refine (spec_l1Rd_below.calls g s0_0 x1001_2 10 t406 t407 w0 _ ?side1 ?side2 A25.out).mono ?_); (case side1 => exact q129_); (case side2 => exact q126_); rintro e w81 ⟨rfl, hi, hb, hk⟩; refine ⟨_, rfl, ?_⟩; have n0_ := Aside0.mk (KeepBut.blk hk (g' := gb398) (o := .cells #[.int .i64 0, .bool false, .int .i64 0] 85 (0, 0)) q89_ NB398_0.out (by simp)); have n1_ := Aside0.mk (KeepBut.blk hk (g' := gb403) (o := .cells #[.int .i64 t399, .bool t400, .int .i64 t401] 85 (0, 0)) q90_ NB403_0.out (by simp)); have n2_ := Aside0.mk (KeepBut.trans q31_ hk (.inl rfl)); have n3_ := Aside0.mk (hb); have n4_ := Aside0.mk (hi); clear BK398; clear BK403; clear HK; clear HB; clear HI0; have BK398 := n0_; have BK403 := n1_; have HK := n2_; have HB := n3_; have HI0 := n4_; clear n0_ n1_ n2_ n3_ n4_; (try clear hb); (try clear hk); (try clear hi); have hnb82 := NB403_398.out; have hnc82 := NB398_403.out; have hnb83 := NB403_0.out; have hnc83 := NB0_403.out; have hcz84_0 : w81.cell? ⟨gb403, 0, none⟩ = some (.int .i64 t399) := (blk_cell BK403.out 0).trans rfl; have hcz84_1 : w81.cell? ⟨gb403, 1, none⟩ = some (.bool t400) := (blk_cell BK403.out 1).trans rfl; have hcz84_2 : w81.cell? ⟨gb403, 2, none⟩ = some (.int .i64 t401) := (blk_cell BK403.out 2).trans rfl; have hfz84_0 := blk_frozen BK403.out 0; have hfz84_1 := blk_frozen BK403.out 1; have hfz84_2 := blk_frozen BK403.out 2; have hnb85 := NB398_0.out; have hnc85 := NB0_398.out; have hcz86_0 : w81.cell? ⟨gb398, 0, none⟩ = some (.int .i64 0) := (blk_cell BK398.out 0).trans rfl; have hcz86_1 : w81.cell? ⟨gb398, 1, none⟩ = some (.bool false) := (blk_cell BK398.out 1).trans rfl; have hcz86_2 : w81.cell? ⟨gb398, 2, none⟩ = some (.int .i64 0) := (blk_cell BK398.out 2).trans rfl; have hfz86_0 := blk_frozen BK398.out 0; have hfz86_1 := blk_frozen BK398.out 1; have hfz86_2 := blk_frozen BK398.out 2))
          refine bodyPost_ret (results_cell_row rfl _ _ gb398 85 #[.int .i64 t399, .bool t400, .int .i64 t401] (0, 0) _ rfl q6_ Try.underlying85 rfl (by kernel_rfl)) rfl ?_
          exact ⟨q76_, q27_, q22_, q31_⟩
mutual
def spec_l1Rd_rom.l0 : Nat → Int → List Int → Int → List Int → Int → Option (ByteArray × Int)
 | 0, _, _, _, _, _ => none
 | k + 1, x3, x4, x5, x1000, x1001 => if x5 < x3 then ((spec_l1Rd_below.f x1000 x1001 16).bind fun bt433 => (spec_l1Rd_rom.l1 k x3 x4 x5 (wrap64 (x5 * 256)) (wrap64 (1 + bt433.1)) x1000 bt433.2)) else ((spec_l1Rd_once.f x1000 x1001 30).bind fun bt427 => (if bt427.1 = true then (if 1 ≤ (x4.length : Int) then (some (strOfNums (x4.drop 1), bt427.2)) else (none)) else (some (strOfNums x4, bt427.2))))
def spec_l1Rd_rom.l1 : Nat → Int → List Int → Int → Int → Int → List Int → Int → Option (ByteArray × Int)
 | 0, _, _, _, _, _, _, _ => none
 | k + 1, x3, x4, x5, x6, x7, x1000, x1001 => if x7 > 0 then ((spec_l1Rd_plain.f k x1000 x1001).bind fun bt435 => ((spec_InsBytes.f k bt435.1 bt435.2.1 bt435.2.2.1).bind fun t439 => (if 0 ≤ x6 then (if x6 ≤ (wrap64 ((wrap64 (x5 + 1)) * 256)) then (if (wrap64 ((wrap64 (x5 + 1)) * 256)) ≤ (x4.length : Int) then (spec_l1Rd_rom.l1 k x3 (cpy x4 (x6 : Int).toNat (((wrap64 ((wrap64 (x5 + 1)) * 256)) : Int).toNat - (x6 : Int).toNat) (bytesOf t439)) x5 (wrap64 (x6 + (t439.size : Int))) (wrap64 (x7 - 1)) x1000 bt435.2.2.2) else (none)) else (none)) else (none)))) else (spec_l1Rd_rom.l0 k x3 x4 (wrap64 (x5 + 1)) x1000 x1001)
end
def spec_l1Rd_rom.f (k : Nat) (s0_0 : List Int) (s0_1 : Int) : Option (ByteArray × Int) := (spec_l1Rd_below.f s0_0 s0_1 3).bind fun bt422 => (if 0 ≤ (wrap64 ((wrap64 (2 + bt422.1)) * 256)) then (if (wrap64 ((wrap64 (2 + bt422.1)) * 256) : Int).toNat ≤ 281474976710656 then (spec_l1Rd_rom.l0 k (wrap64 (2 + bt422.1)) (List.replicate (wrap64 ((wrap64 (2 + bt422.1)) * 256) : Int).toNat 0) 0 s0_0 bt422.2) else (none)) else (none))
theorem spec_l1Rd_rom.mono_l : ∀ k, (∀ y0 y1 y2 y3 y4, LeO (spec_l1Rd_rom.l0 k y0 y1 y2 y3 y4) (spec_l1Rd_rom.l0 (k + 1) y0 y1 y2 y3 y4)) ∧ (∀ y0 y1 y2 y3 y4 y5 y6, LeO (spec_l1Rd_rom.l1 k y0 y1 y2 y3 y4 y5 y6) (spec_l1Rd_rom.l1 (k + 1) y0 y1 y2 y3 y4 y5 y6))
 | 0 => ⟨fun _ _ _ _ _ r h => by simp [spec_l1Rd_rom.l0] at h, fun _ _ _ _ _ _ _ r h => by simp [spec_l1Rd_rom.l1] at h⟩
 | k + 1 => by
  obtain ⟨ih0, ih1⟩ := spec_l1Rd_rom.mono_l k
  refine ⟨?_, ?_⟩
  ·intro y0 y1 y2 y3 y4
   unfold spec_l1Rd_rom.l0
   repeat' first
   | (with_reducible first | exact ih0 _ _ _ _ _ | exact ih1 _ _ _ _ _ _ _ | exact spec_InsBytes.mono _ _ _ _ | exact spec_l1Rd_plain.mono _ _ _ | exact LeO.refl _ | exact LeO.none _ | refine LeO.ite ?_ ?_ | refine LeO.bind ?_ (fun _ => ?_))
   | exact ih0 _ _ _ _ _
   | exact ih1 _ _ _ _ _ _ _
   | exact spec_InsBytes.mono _ _ _ _
   | exact spec_l1Rd_plain.mono _ _ _
   | exact LeO.none _
   | refine LeO.ite ?_ ?_
   | refine LeO.bind ?_ (fun _ => ?_)
  ·intro y0 y1 y2 y3 y4 y5 y6
   unfold spec_l1Rd_rom.l1
   repeat' first
   | (with_reducible first | exact ih0 _ _ _ _ _ | exact ih1 _ _ _ _ _ _ _ | exact spec_InsBytes.mono _ _ _ _ | exact spec_l1Rd_plain.mono _ _ _ | exact LeO.refl _ | exact LeO.none _ | refine LeO.ite ?_ ?_ | refine LeO.bind ?_ (fun _ => ?_))
   | exact ih0 _ _ _ _ _
   | exact ih1 _ _ _ _ _ _ _
   | exact spec_InsBytes.mono _ _ _ _
   | exact spec_l1Rd_plain.mono _ _ _
   | exact LeO.none _
   | refine LeO.ite ?_ ?_
   | refine LeO.bind ?_ (fun _ => ?_)
theorem spec_l1Rd_rom.mono : ∀ a0 a1 k, LeO (spec_l1Rd_rom.f k a0 a1) (spec_l1Rd_rom.f (k + 1) a0 a1) := by
 intro a0 a1 k
 obtain ⟨ih0, ih1⟩ := spec_l1Rd_rom.mono_l k
 unfold spec_l1Rd_rom.f
 repeat' first
   | (with_reducible first | exact ih0 _ _ _ _ _ | exact ih1 _ _ _ _ _ _ _ | exact spec_InsBytes.mono _ _ _ _ | exact spec_l1Rd_plain.mono _ _ _ | exact LeO.refl _ | exact LeO.none _ | refine LeO.ite ?_ ?_ | refine LeO.bind ?_ (fun _ => ?_))
   | exact ih0 _ _ _ _ _
   | exact ih1 _ _ _ _ _ _ _
   | exact spec_InsBytes.mono _ _ _ _
   | exact spec_l1Rd_plain.mono _ _ _
   | exact LeO.none _
   | refine LeO.ite ?_ ?_
   | refine LeO.bind ?_ (fun _ => ?_)
theorem spec_l1Rd_rom.calls (k : Nat) (g : Nat) (s0_0 : List Int) (s0_1 : Int) (r1 : ByteArray) (r2 : Int) (w0 w : World) (hI : IsS78 w0 w g s0_0 s0_1) (hB : Below w0.heap.size w0 w) (h : spec_l1Rd_rom.f k s0_0 s0_1 = some (r1, r2)) :
  Calls Try.prog 69 #[.pointer (some ⟨g, 0, none⟩)] w fun e w' => e = .returned (.string r1) ∧ IsS78 w0 w' g s0_0 r2 ∧ Below w0.heap.size w0 w' ∧ KeepBut w w' g none := by
 have HI0 := Aside0.mk hI
 have HK := Aside0.mk (KeepBut.refl w g none)
 have HL := Aside0.mk hB.size
 clear hI
 have HW0 := Aside0.mk hB.size
 have HB := Aside0.mk hB
 clear hB
 have H : ((spec_l1Rd_below.f s0_0 s0_1 3).bind fun bt422 => (if 0 ≤ (wrap64 ((wrap64 (2 + bt422.1)) * 256)) then (if (wrap64 ((wrap64 (2 + bt422.1)) * 256) : Int).toNat ≤ 281474976710656 then (spec_l1Rd_rom.l0 k (wrap64 (2 + bt422.1)) (List.replicate (wrap64 ((wrap64 (2 + bt422.1)) * 256) : Int).toNat 0) 0 s0_0 bt422.2) else (none)) else (none))) = some (r1, r2) := h
 clear h
 replace H := Option.bind_eq_some_iff.mp H
 obtain ⟨⟨t422, t423⟩, A20, H⟩ := H
 replace H : (if 0 ≤ (wrap64 ((wrap64 (2 + t422)) * 256)) then (if (wrap64 ((wrap64 (2 + t422)) * 256) : Int).toNat ≤ 281474976710656 then (spec_l1Rd_rom.l0 k (wrap64 (2 + t422)) (List.replicate (wrap64 ((wrap64 (2 + t422)) * 256) : Int).toNat 0) 0 s0_0 t423) else (none)) else (none)) = some (r1, r2) := H
 have A2 := Aside0.mk A20
 clear A20
 obtain ⟨ji3, hji3⟩ : ∃ j_ : Int, (wrap64 ((wrap64 (2 + t422)) * 256)) = j_ := ⟨_, rfl⟩
 replace H : (if 0 ≤ (ji3) then (if (ji3 : Int).toNat ≤ 281474976710656 then (spec_l1Rd_rom.l0 k (wrap64 (2 + t422)) (List.replicate (ji3 : Int).toNat 0) 0 s0_0 t423) else (none)) else (none)) = some (r1, r2) := by first | (rw [hji3] at H; exact H) | (simp only [hji3] at H ⊢; exact H)
 (try rw [hji3] at A2)
 have hji3w : (IntKind.i64.wrap ((wrap64 (2 + t422)) * 256)) = ji3 := (i64_w _).trans hji3
 by_cases c4 : 0 ≤ (ji3)
 ·rw [if_pos c4] at H
  have c4b0 := eq_true c4
  have c4b1 : decide (0 ≤ (ji3)) = true := decide_eq_true c4
  clear c4
  by_cases c5 : (ji3 : Int).toNat ≤ 281474976710656
  ·rw [if_pos c5] at H
   have c5b0 := eq_true c5
   have c5b1 : decide ((ji3 : Int).toNat ≤ 281474976710656) = true := decide_eq_true c5
   clear c5
   obtain ⟨y424, hy424⟩ : ∃ y_ : List Int, y_ = (List.replicate (ji3 : Int).toNat 0) := ⟨_, rfl⟩
   replace H : (spec_l1Rd_rom.l0 k (wrap64 (2 + t422)) y424 0 s0_0 t423) = some (r1, r2) := by first | (rw [hy424]; with_reducible exact H) | (have H2_ := (Option.bind_some _ _).symm.trans H; rw [hy424]; with_reducible exact H2_) | (have H2_ := (Option.bind_some _ _).symm.trans H; with_reducible exact H2_) | with_reducible exact H | (rw [hy424]; exact H) | exact H
   have Ny424 := Aside0.mk hy424
   clear hy424
   have H' := Aside0.mk H
   clear H
   go_enter Try.func69, Try.ntmps69
   go_wp2_with (first | ((with_reducible refine gate_callee (f := 37) rfl ?_); refine goesL_ (some 10) rfl rfl Try.func37 (by kernel_rfl) rfl #[.pointer (some ⟨g, 0, none⟩), .int .i64 3] rfl q74_ ?_; (with_reducible refine (spec_l1Rd_below.calls g s0_0 s0_1 3 t422 t423 w0 _ ?side1 ?side2 A2.out).mono ?_); (case side1 => exact q137_); (case side2 => exact q135_); rintro e w6 ⟨rfl, hi, hb, hk⟩; refine ⟨_, rfl, ?_⟩; have n0_ := Aside0.mk (KeepBut.trans q70_ hk (.inl rfl)); have n1_ := Aside0.mk (hb); have n2_ := Aside0.mk (hi); clear HK; clear HB; clear HI0; have HK := n0_; have HB := n1_; have HI0 := n2_; clear n0_ n1_ n2_; (try clear hb); (try clear hk); (try clear hi)) | ((with_reducible refine gate_dst (N := 14) rfl ?_); refine Kd.R_make (Kd.int .u8) _ 5 rfl (N := 14) rfl 25 _ _ rfl ji3 rfl rfl Try.underlying25 (.int .u8 0) 1 info5 rfl (by decide) (by omega) 0 (ok := fun _ => True) (okp := fun _ => True) rfl (fun _ hk => hk) trivial (of_decide_eq_true q109_) (Nat.le_trans (Nat.mul_le_mul_right _ (of_decide_eq_true q109_ : ji3.toNat ≤ 281474976710656)) (by omega)) (Below.refl _ _) (Nat.le_refl _) ?_; intro v425 w7 ho8 hb hg_ hnew_; clear hg_ hnew_; (first | rw [← Ny424.out] at ho8 | (simp only [Int.reduceToNat] at ho8; rw [← Ny424.out] at ho8)); have n0_ := Aside0.mk (Kd.R_lower ho8 (keep_size (w := w) (g := g) (row := none) q70_)); have n1_ := Aside0.mk (IsS78.below q69_ hb); have n2_ := Aside0.mk (KeepBut.trans q70_ (KeepBut.of_below hb g none) (.inl rfl)); have n3_ := Aside0.mk (below_step q50_ hb); clear HI0; clear HK; clear HB; have HO426 := n0_; have HI0 := n1_; have HK := n2_; have HB := n3_; clear n0_ n1_ n2_ n3_; clear hb ho8))
   go_loopg [5] k (fun kq v5 w' => ∃ (x4_1 : List Int) (x5_1 : Int) (x1001_1 : Int), v5 = .int .i64 x5_1 ∧ Aside0 (spec_l1Rd_rom.l0 kq (wrap64 (2 + t422)) x4_1 x5_1 s0_0 x1001_1 = some (r1, r2)) ∧ Aside0 (kq ≤ k) ∧ Aside0 (Kd.R (Kd.int .u8) 5 w' w.heap.size (fun _ => True) v425 x4_1) ∧ Aside0 (IsS78 w0 w' g s0_0 x1001_1) ∧ Aside0 (KeepBut w w' g none) ∧ Aside0 (Below w0.heap.size w0 w'))
   case atStart => exact ⟨(y424), (0), (t423), q101_, q100_, ⟨Nat.le_refl _⟩, ⟨by (with_reducible repeat (first | apply Kd.R_alloc | apply Kd.R_drewN | apply Kd.R_drew)); exact HO426.out⟩, ⟨q69_⟩, ⟨q70_⟩, ⟨q50_⟩⟩
   case round =>
    clear H'
    try clear p2
    try clear c3
    try clear c4
    try clear c4b0
    try clear c4b1
    try clear c5
    try clear c5b0
    try clear c5b1
    try clear c6
    try clear p6
    obtain ⟨x4_1, x5_1, x1001_1, rfl, HA, HK1, HO_4, HI0, HK, HB⟩ := hrel
    cases gk with
    | zero => exact absurd HA.out (by simp [spec_l1Rd_rom.l0])
    | succ k1 =>
     have H := HA.out
     clear HA
     simp only [spec_l1Rd_rom.l0] at H
     by_cases c9 : x5_1 < (wrap64 (2 + t422))
     ·rw [if_pos c9] at H
      have c9b0 : decide (x5_1 < (wrap64 (2 + t422))) = true := decide_eq_true c9
      clear c9
      replace H := Option.bind_eq_some_iff.mp H
      obtain ⟨⟨t433, t434⟩, A100, H⟩ := H
      replace H : (spec_l1Rd_rom.l1 k1 (wrap64 (2 + t422)) x4_1 x5_1 (wrap64 (x5_1 * 256)) (wrap64 (1 + t433)) s0_0 t434) = some (r1, r2) := H
      have A10 := Aside0.mk A100
      clear A100
      have H' := Aside0.mk H
      clear H
      go_wp2_with (first | ((with_reducible refine gate_callee (f := 37) rfl ?_); refine goesL_ (some 23) rfl rfl Try.func37 (by kernel_rfl) rfl #[.pointer (some ⟨g, 0, none⟩), .int .i64 16] rfl q74_ ?_; (with_reducible refine (spec_l1Rd_below.calls g s0_0 x1001_1 16 t433 t434 w0 _ ?side1 ?side2 A10.out).mono ?_); (case side1 => exact q137_); (case side2 => exact q135_); rintro e w11 ⟨rfl, hi, hb, hk⟩; refine ⟨_, rfl, ?_⟩; have n0_ := Aside0.mk (Kd.R_mono (Kd.R_keep (IsS78.apart (show IsS78 w0 _ g s0_0 x1001_1 from by repeat (first | (with_reducible first | exact HI0.out | apply IsS78.alloc | apply IsS78.drewN | apply IsS78.drew | apply IsS78.set_1) | exact HI0.out)) q107_ (by decide)) hk (fun _ h => h.2)) (fun _ h => h.1)); have n1_ := Aside0.mk (KeepBut.trans q70_ hk (.inl rfl)); have n2_ := Aside0.mk (hb); have n3_ := Aside0.mk (hi); clear HO_4; clear HK; clear HB; clear HI0; have HO_4 := n0_; have HK := n1_; have HB := n2_; have HI0 := n3_; clear n0_ n1_ n2_ n3_; (try clear hb); (try clear hk); (try clear hi)))
      go_loopg [6, 7] k1 (fun kq v6 v7 w' => ∃ (x4_2 : List Int) (x6_2 : Int) (x7_2 : Int) (x1001_2 : Int), v6 = .int .i64 x6_2 ∧ v7 = .int .i64 x7_2 ∧ Aside0 (spec_l1Rd_rom.l1 kq (wrap64 (2 + t422)) x4_2 x5_1 x6_2 x7_2 s0_0 x1001_2 = some (r1, r2)) ∧ Aside0 (kq ≤ k1) ∧ Aside0 (Kd.R (Kd.int .u8) 5 w' w.heap.size (fun _ => True) v425 x4_2) ∧ Aside0 (IsS78 w0 w' g s0_0 x1001_2) ∧ Aside0 (KeepBut w w' g none) ∧ Aside0 (Below w0.heap.size w0 w'))
      case atStart => exact ⟨(x4_1), (wrap64 (x5_1 * 256)), (wrap64 (1 + t433)), (t434), q101_, q101_, q100_, ⟨Nat.le_refl _⟩, ⟨q107_⟩, ⟨q69_⟩, ⟨q70_⟩, ⟨q50_⟩⟩
      case round =>
       clear H'
       try clear p2 p2
       try clear c3
       try clear c4
       try clear c4b0
       try clear c4b1
       try clear c5
       try clear c5b0
       try clear c5b1
       try clear c6
       try clear p6 p6
       try clear c9
       try clear c9b0
       obtain ⟨x4_2, x6_2, x7_2, x1001_2, rfl, rfl, HA, HK2, HO_4, HI0, HK, HB⟩ := hrel
       cases gk with
       | zero => exact absurd HA.out (by simp [spec_l1Rd_rom.l1])
       | succ k2 =>
        have H := HA.out
        clear HA
        simp only [spec_l1Rd_rom.l1] at H
        by_cases c12 : x7_2 > 0
        ·rw [if_pos c12] at H
         have c12b0 : decide (0 < x7_2) = true := decide_eq_true c12
         clear c12
         replace H := Option.bind_eq_some_iff.mp H
         obtain ⟨⟨t435, t436, t437, t438⟩, A130, H⟩ := H
         replace H : ((spec_InsBytes.f k2 t435 t436 t437).bind fun t439 => (if 0 ≤ x6_2 then (if x6_2 ≤ (wrap64 ((wrap64 (x5_1 + 1)) * 256)) then (if (wrap64 ((wrap64 (x5_1 + 1)) * 256)) ≤ (x4_2.length : Int) then (spec_l1Rd_rom.l1 k2 (wrap64 (2 + t422)) (cpy x4_2 (x6_2 : Int).toNat (((wrap64 ((wrap64 (x5_1 + 1)) * 256)) : Int).toNat - (x6_2 : Int).toNat) (bytesOf t439)) x5_1 (wrap64 (x6_2 + (t439.size : Int))) (wrap64 (x7_2 - 1)) s0_0 t438) else (none)) else (none)) else (none))) = some (r1, r2) := H
         have A13 := Aside0.mk A130
         clear A130
         replace H := Option.bind_eq_some_iff.mp H
         obtain ⟨t439, A140, H⟩ := H
         have A14 := Aside0.mk A140
         clear A140
         by_cases c15 : 0 ≤ x6_2
         ·rw [if_pos c15] at H
          have c15b0 := eq_true c15
          have c15b1 : decide (0 ≤ x6_2) = true := decide_eq_true c15
          clear c15
          by_cases c16 : x6_2 ≤ (wrap64 ((wrap64 (x5_1 + 1)) * 256))
          ·rw [if_pos c16] at H
           have c16b0 := eq_true c16
           have c16b1 : decide (x6_2 ≤ (wrap64 ((wrap64 (x5_1 + 1)) * 256))) = true := decide_eq_true c16
           by_cases c17 : (wrap64 ((wrap64 (x5_1 + 1)) * 256)) ≤ (x4_2.length : Int)
           ·rw [if_pos c17] at H
            have c17b0 := eq_true c17
            have c17b1 : decide ((wrap64 ((wrap64 (x5_1 + 1)) * 256)) ≤ (x4_2.length : Int)) = true := decide_eq_true c17
            obtain ⟨y440, hy440⟩ : ∃ y_ : List Int, y_ = ((x4_2.take ((wrap64 ((wrap64 (x5_1 + 1)) * 256)) : Int).toNat).drop (x6_2 : Int).toNat) := ⟨_, rfl⟩
            replace H : (spec_l1Rd_rom.l1 k2 (wrap64 (2 + t422)) (cpy x4_2 (x6_2 : Int).toNat (((wrap64 ((wrap64 (x5_1 + 1)) * 256)) : Int).toNat - (x6_2 : Int).toNat) (bytesOf t439)) x5_1 (wrap64 (x6_2 + (t439.size : Int))) (wrap64 (x7_2 - 1)) s0_0 t438) = some (r1, r2) := by first | (rw [hy440]; with_reducible exact H) | (have H2_ := (Option.bind_some _ _).symm.trans H; rw [hy440]; with_reducible exact H2_) | (have H2_ := (Option.bind_some _ _).symm.trans H; with_reducible exact H2_) | with_reducible exact H | (rw [hy440]; exact H) | exact H
            have Ny440 := Aside0.mk hy440
            clear hy440
            obtain ⟨y444, hy444⟩ : ∃ y_ : List Int, y_ = (cpy x4_2 (x6_2 : Int).toNat (((wrap64 ((wrap64 (x5_1 + 1)) * 256)) : Int).toNat - (x6_2 : Int).toNat) (bytesOf t439)) := ⟨_, rfl⟩
            replace H : (spec_l1Rd_rom.l1 k2 (wrap64 (2 + t422)) y444 x5_1 (wrap64 (x6_2 + (t439.size : Int))) (wrap64 (x7_2 - 1)) s0_0 t438) = some (r1, r2) := by first | (rw [hy444]; with_reducible exact H) | (have H2_ := (Option.bind_some _ _).symm.trans H; rw [hy444]; with_reducible exact H2_) | (have H2_ := (Option.bind_some _ _).symm.trans H; with_reducible exact H2_) | with_reducible exact H | (rw [hy444]; exact H) | exact H
            have Ny444 := Aside0.mk hy444
            clear hy444
            have H' := Aside0.mk H
            clear H
            go_wp2_with (first | ((with_reducible refine gate_callee (f := 80) rfl ?_); refine goesL_ (some 30) rfl rfl Try.func80 (by kernel_rfl) rfl #[.pointer (some ⟨g, 0, none⟩)] rfl q74_ ?_; (with_reducible refine (spec_l1Rd_plain.calls k2 g s0_0 x1001_2 t435 t436 t437 t438 w0 _ ?side1 ?side2 A13.out).mono ?_); (case side1 => exact q137_); (case side2 => exact q135_); rintro e w18 ⟨rfl, hi, hb, hk⟩; refine ⟨_, rfl, ?_⟩; have n0_ := Aside0.mk (Kd.R_mono (Kd.R_keep (IsS78.apart (show IsS78 w0 _ g s0_0 x1001_2 from by repeat (first | (with_reducible first | exact HI0.out | apply IsS78.alloc | apply IsS78.drewN | apply IsS78.drew | apply IsS78.set_1) | exact HI0.out)) q107_ (by decide)) hk (fun _ h => h.2)) (fun _ h => h.1)); have n1_ := Aside0.mk (KeepBut.trans q70_ hk (.inl rfl)); have n2_ := Aside0.mk (hb); have n3_ := Aside0.mk (hi); clear HO_4; clear HK; clear HB; clear HI0; have HO_4 := n0_; have HK := n1_; have HB := n2_; have HI0 := n3_; clear n0_ n1_ n2_ n3_; (try clear hb); (try clear hk); (try clear hi)) | ((with_reducible refine gate_callee (f := 79) rfl ?_); refine goesL_ (some 31) rfl rfl Try.func79 (by kernel_rfl) rfl #[.agg #[.int .i64 t435, .bool t436, .int .i64 t437]] rfl q74_ ?_; (with_reducible refine (spec_InsBytes.calls k2 t435 t436 t437 t439 _ A14.out).mono ?_); rintro e w19 ⟨rfl, hb⟩; refine ⟨_, rfl, ?_⟩; have n0_ := Aside0.mk (Kd.R_below q107_ hb); have n1_ := Aside0.mk (IsS78.below q69_ hb); have n2_ := Aside0.mk (KeepBut.trans q70_ (KeepBut.of_below hb g none) (.inl rfl)); have n3_ := Aside0.mk (below_step q50_ hb); clear HO_4; clear HI0; clear HK; clear HB; have HO_4 := n0_; have HI0 := n1_; have HK := n2_; have HB := n3_; clear n0_ n1_ n2_ n3_; (try clear hb); obtain ⟨Ao21, co21, eo21⟩ := Kd.R_slice HO_4.out; subst eo21; have q20 : ((wrap64 ((wrap64 (x5_1 + 1)) * 256)) : Int) ≤ ((x4_2.length : Int) : Int) := of_decide_eq_true q109_; obtain ⟨i020, hi020, _, hsz20, _⟩ := info_parts info5; have hroom20 : x4_2.length ≤ co21 := (Kd.R_reads' HO_4.out).2.1; have hC20 : Kd.C (Kd.int .u8) _ Ao21 x4_2.length x4_2 := (Kd.R_reads' HO_4.out).2.2; have ql20 : (x6_2 : Int) ≤ ((wrap64 ((wrap64 (x5_1 + 1)) * 256)) : Int) := of_decide_eq_true q109_; have q020 : (0 : Int) ≤ (x6_2 : Int) := of_decide_eq_true q109_; have hcut20 := cut_mid (P := Try.prog) 25 5 .i64 .i64 Try.underlying25 hi020 1 hsz20 Ao21 x4_2.length co21 x6_2 (wrap64 ((wrap64 (x5_1 + 1)) * 256)) q020 ql20 q20 hroom20; have hr20 := Kd.C_mid (lo := (x6_2 : Int).toNat) (hi := ((wrap64 ((wrap64 (x5_1 + 1)) * 256)) : Int).toNat) (c := co21) hC20 (by omega) (by omega) hroom20; obtain ⟨A20, hA20⟩ : ∃ A1, A1 = (if co21 = (x6_2 : Int).toNat then Ao21 else (Ao21 : Option Addr).map (·.add ((x6_2 : Int).toNat * 1))) := ⟨_, rfl⟩; obtain ⟨c20, hc20⟩ : ∃ c1, c1 = co21 - (x6_2 : Int).toNat := ⟨_, rfl⟩; have hy20 : y440.length = ((wrap64 ((wrap64 (x5_1 + 1)) * 256)) : Int).toNat - (x6_2 : Int).toNat := (by rw [Ny440.out, List.length_drop, List.length_take] <;> omega); rw [show ((x4_2).take ((wrap64 ((wrap64 (x5_1 + 1)) * 256)) : Int).toNat).drop (x6_2 : Int).toNat = y440 from Ny440.out.symm] at hr20; replace hr20 : Kd.C (Kd.int .u8) _ A20 y440.length y440 := (by rw [hA20]; exact hr20); rw [← hy20, ← hA20, ← hc20] at hcut20; have HR443 := Aside0.mk hr20; have HC443 := Aside0.mk (show y440.length ≤ c20 from by rw [hy20, hc20]; exact Nat.sub_le_sub_right (Nat.le_trans (by omega) hroom20) _); clear hr20 hC20 hroom20 hi020 hsz20 hc20; have KY20 := Aside0.mk hy20; have KA20 := Aside0.mk hA20; clear hy20 hA20; have KL20 := Aside0.mk (show ((wrap64 ((wrap64 (x5_1 + 1)) * 256)) : Int).toNat ≤ x4_2.length from by omega); have KM20 := Aside0.mk (show (x6_2 : Int).toNat ≤ ((wrap64 ((wrap64 (x5_1 + 1)) * 256)) : Int).toNat from by omega); replace q20 := eq_true q20) | ((with_reducible refine gate_builtin (b := .copy) rfl ?_); have e_ := (Kd.R_reads' HO_4.out).1; have hy1_ := KY20.out; have b0_ : (0 : Int) ≤ (x6_2 : Int) := of_decide_eq_true q109_; have b1_ : (x6_2 : Int) ≤ ((wrap64 ((wrap64 (x5_1 + 1)) * 256)) : Int) := of_decide_eq_true q109_; have b2_ : ((wrap64 ((wrap64 (x5_1 + 1)) * 256)) : Int) ≤ ((x4_2.length : Int) : Int) := of_decide_eq_true q109_; have hm_ : y440.length = (((wrap64 ((wrap64 (x5_1 + 1)) * 256)) : Int).toNat - (x6_2 : Int).toNat) := (by omega); have hv_ : cpy x4_2 (x6_2 : Int).toNat y440.length (bytesOf t439) = y444 := (by rw [Ny444.out]; first | done | rw [hm_]); refine R_copy w.heap.size rfl (.tmp 37) _ 25 _ 5 rfl Try.underlying25 (by kernel_rfl) (A0 := Ao21) (n := x4_2.length) (c := co21) (m := y440.length) (lo := (x6_2 : Int).toNat) rfl rfl ?hA q107_ ?hl (Below.refl _ _) (keep_size (w := w) (g := g) (row := none) q70_) ?_; (case hA => exact .inr KA20.out); (case hl => omega); intro w22 ho hb hg; rw [hv_] at ho; clear e_ hm_ hv_ hy1_ b0_ b1_ b2_; have n0_ := Aside0.mk (ho); have n1_ := Aside0.mk (IsS78.grown q69_ hg (IsS78.own_ne HI0.out HO_4.out (by decide))); have n2_ := Aside0.mk (below_weaken q50_ HL.out hb); have n3_ := Aside0.mk (KeepBut.trans q70_ (KeepBut.of_grown hg g) (Kd.R_base2 HO_4.out)); clear HO_4; clear HI0; clear HB; clear HK; have HO_4 := n0_; have HI0 := n1_; have HB := n2_; have HK := n3_; clear n0_ n1_ n2_ n3_; clear ho hb hg))
            go_roundg k2
            case measure => have := HK1.out; have := HK2.out; omega
            case rel => exact ⟨(y444), (wrap64 (x6_2 + (t439.size : Int))), (wrap64 (x7_2 - 1)), (t438), q101_, q101_, q100_, ⟨q120_⟩, ⟨q107_⟩, ⟨q69_⟩, ⟨q70_⟩, ⟨q50_⟩⟩
           ·rw [if_neg c17] at H
            exact absurd H (by simp)
          ·rw [if_neg c16] at H
           exact absurd H (by simp)
         ·rw [if_neg c15] at H
          exact absurd H (by simp)
        ·rw [if_neg c12] at H
         have c12b0 : decide (0 < x7_2) = false := decide_eq_false c12
         clear c12
         have H' := Aside0.mk H
         clear H
         go_wp2
         go_roundg k2
         case measure => have := HK1.out; have := HK2.out; omega
         case rel => exact ⟨(x4_2), (wrap64 (x5_1 + 1)), (x1001_2), q101_, q100_, ⟨q120_⟩, ⟨q107_⟩, ⟨q69_⟩, ⟨q70_⟩, ⟨q50_⟩⟩
     ·rw [if_neg c9] at H
      have c9b0 : decide (x5_1 < (wrap64 (2 + t422))) = false := decide_eq_false c9
      clear c9
      replace H := Option.bind_eq_some_iff.mp H
      obtain ⟨⟨t427, t428⟩, A240, H⟩ := H
      replace H : (if t427 = true then (if 1 ≤ (x4_1.length : Int) then (some (strOfNums (x4_1.drop 1), t428)) else (none)) else (some (strOfNums x4_1, t428))) = some (r1, r2) := H
      have A24 := Aside0.mk A240
      clear A240
      by_cases c25 : t427 = true
      ·subst c25
       replace H : (if 1 ≤ (x4_1.length : Int) then (some (strOfNums (x4_1.drop 1), t428)) else (none)) = some (r1, r2) := by rw [if_pos rfl] at H; exact H
       by_cases c26 : 1 ≤ (x4_1.length : Int)
       ·rw [if_pos c26] at H
        have c26b0 := eq_true c26
        have c26b1 : decide (1 ≤ (x4_1.length : Int)) = true := decide_eq_true c26
        clear c26
        obtain ⟨y429, hy429⟩ : ∃ y_ : List Int, y_ = (x4_1.drop 1) := ⟨_, rfl⟩
        replace H : (some (strOfNums y429, t428)) = some (r1, r2) := by first | (rw [hy429]; with_reducible exact H) | (have H2_ := (Option.bind_some _ _).symm.trans H; rw [hy429]; with_reducible exact H2_) | (have H2_ := (Option.bind_some _ _).symm.trans H; with_reducible exact H2_) | with_reducible exact H | (rw [hy429]; exact H) | exact H
        have Ny429 := Aside0.mk hy429
        clear hy429
        simp only [Option.some.injEq, Prod.mk.injEq] at H
        obtain ⟨rfl, rfl⟩ := H
        go_wp2_with (first | ((with_reducible refine gate_callee (f := 56) rfl ?_); refine goesL_ (some 45) rfl rfl Try.func56 (by kernel_rfl) rfl #[.pointer (some ⟨g, 0, none⟩), .int .i64 30] rfl q74_ ?_; (with_reducible refine (spec_l1Rd_once.calls g s0_0 x1001_1 30 true t428 w0 _ ?side1 ?side2 A24.out).mono ?_); (case side1 => exact q137_); (case side2 => exact q135_); rintro e w27 ⟨rfl, hi, hb, hk⟩; refine ⟨_, rfl, ?_⟩; have n0_ := Aside0.mk (Kd.R_mono (Kd.R_keep (IsS78.apart (show IsS78 w0 _ g s0_0 x1001_1 from by repeat (first | (with_reducible first | exact HI0.out | apply IsS78.alloc | apply IsS78.drewN | apply IsS78.drew | apply IsS78.set_1) | exact HI0.out)) q107_ (by decide)) hk (fun _ h => h.2)) (fun _ h => h.1)); have n1_ := Aside0.mk (KeepBut.trans q70_ hk (.inl rfl)); have n2_ := Aside0.mk (hb); have n3_ := Aside0.mk (hi); clear HO_4; clear HK; clear HB; clear HI0; have HO_4 := n0_; have HK := n1_; have HB := n2_; have HI0 := n3_; clear n0_ n1_ n2_ n3_; (try clear hb); (try clear hk); (try clear hi); obtain ⟨Ao29, co29, eo29⟩ := Kd.R_slice HO_4.out; subst eo29; have q28 : (1 : Int) ≤ ((x4_1.length : Int) : Int) := of_decide_eq_true q109_; obtain ⟨i028, hi028, _, hsz28, _⟩ := info_parts info5; have hroom28 : x4_1.length ≤ co29 := (Kd.R_reads' HO_4.out).2.1; have hC28 : Kd.C (Kd.int .u8) _ Ao29 x4_1.length x4_1 := (Kd.R_reads' HO_4.out).2.2; have hcut28 := cut_from (P := Try.prog) 25 5 .i64 Try.underlying25 hi028 1 hsz28 Ao29 x4_1.length co29 1 (by omega) q28; have hr28 := Kd.C_drop (m := (1 : Int).toNat) (c := co29) hC28 (by omega) hroom28; obtain ⟨A28, hA28⟩ : ∃ A1, A1 = (if co29 = (1 : Int).toNat then Ao29 else (Ao29 : Option Addr).map (·.add ((1 : Int).toNat * 1))) := ⟨_, rfl⟩; obtain ⟨c28, hc28⟩ : ∃ c1, c1 = co29 - (1 : Int).toNat := ⟨_, rfl⟩; have hy28 : y429.length = x4_1.length - (1 : Int).toNat := (by rw [Ny429.out, List.length_drop] <;> omega); rw [show (x4_1).drop (1 : Int).toNat = y429 from Ny429.out.symm] at hr28; replace hr28 : Kd.C (Kd.int .u8) _ A28 y429.length y429 := (by rw [hA28]; exact hr28); rw [← hy28, ← hA28, ← hc28] at hcut28; have HR432 := Aside0.mk hr28; have HC432 := Aside0.mk (show y429.length ≤ c28 from by rw [hy28, hc28]; exact Nat.sub_le_sub_right hroom28 _); clear hr28 hC28 hroom28 hi028 hsz28 hc28; have KY28 := Aside0.mk hy28; have KA28 := Aside0.mk hA28; clear hy28 hA28; have KL28 := Aside0.mk (show 1 ≤ x4_1.length from by omega); replace q28 := eq_true q28; have hcv30 := Kd.C_string (P := Try.prog) (A := A28) (c := c28) Try.underlying25 Try.underlying5 Try.underlying9 (by repeat (first | (with_reducible exact HR432.out) | (with_reducible refine Kd.C_alloc ?_ _) | (with_reducible refine Kd.C_drewN ?_ _) | (with_reducible refine Kd.C_drew ?_) | exact HR432.out))))
        go_ret
        exact ⟨q38_, q69_, q50_, q70_⟩
       ·rw [if_neg c26] at H
        exact absurd H (by simp)
      ·replace c25 := Bool.eq_false_iff.mpr c25
       subst c25
       replace H : (some (strOfNums x4_1, t428)) = some (r1, r2) := by rw [if_neg (show ¬ (false = true) by decide)] at H; exact H
       simp only [Option.some.injEq, Prod.mk.injEq] at H
       obtain ⟨rfl, rfl⟩ := H
       go_wp2_with (first | ((with_reducible refine gate_callee (f := 56) rfl ?_); refine goesL_ (some 45) rfl rfl Try.func56 (by kernel_rfl) rfl #[.pointer (some ⟨g, 0, none⟩), .int .i64 30] rfl q74_ ?_; (with_reducible refine (spec_l1Rd_once.calls g s0_0 x1001_1 30 false t428 w0 _ ?side1 ?side2 A24.out).mono ?_); (case side1 => exact q137_); (case side2 => exact q135_); rintro e w31 ⟨rfl, hi, hb, hk⟩; refine ⟨_, rfl, ?_⟩; have n0_ := Aside0.mk (Kd.R_mono (Kd.R_keep (IsS78.apart (show IsS78 w0 _ g s0_0 x1001_1 from by repeat (first | (with_reducible first | exact HI0.out | apply IsS78.alloc | apply IsS78.drewN | apply IsS78.drew | apply IsS78.set_1) | exact HI0.out)) q107_ (by decide)) hk (fun _ h => h.2)) (fun _ h => h.1)); have n1_ := Aside0.mk (KeepBut.trans q70_ hk (.inl rfl)); have n2_ := Aside0.mk (hb); have n3_ := Aside0.mk (hi); clear HO_4; clear HK; clear HB; clear HI0; have HO_4 := n0_; have HK := n1_; have HB := n2_; have HI0 := n3_; clear n0_ n1_ n2_ n3_; (try clear hb); (try clear hk); (try clear hi); have hcv32 := own_string (P := Try.prog) Try.underlying25 Try.underlying5 Try.underlying9 (Kd.own_of_R HO_4.out); have hcvq32 := fun m_ : Nat => own_string (P := Try.prog) Try.underlying25 Try.underlying5 Try.underlying9 (Kd.own_of_R (Kd.R_drewN HO_4.out m_))))
       go_ret
       exact ⟨q38_, q69_, q50_, q70_⟩
  ·rw [if_neg c5] at H
   exact absurd H (by simp)
 ·rw [if_neg c4] at H
  exact absurd H (by simp)
end Go.Proofs.Ytcohcndliaaacaa.QFnCartReads
