/- The machine's side of a law, written by a program of this session for this claim. -/
import Derived.Test.YtcohcndliaaacaaZFnCartReadsQq
import Derived.Test.YtcohcndliaaacaaZFnCartReadsQFnCartReadsx0
import Derived.Test.YtcohcndliaaacaaZFnCartReadsQFnCartReadsx1
import Derived.Test.YtcohcndliaaacaaZFnCartReadsQFnCartReadsx4
import Derived.Test.YtcohcndliaaacaaZFnCartReadsQFnCartReadsx10
namespace Go.Proofs.Ytcohcndliaaacaa.QFnCartReads
open Go.Proofs.Ytcohcndliaaacaa.Qq
open Go.RowKit Go.Proofs.Ytcohcndliaaacaa.LibX Go.Proofs.Ytcohcndliaaacaa.LibC Go.Proofs.YtcohcndliaaacaaW.PrintWords Go.Proofs.YtcohcndliaaacaaW.PrintLast Go.Proofs.YtcohcndliaaacaaW.PrintMore
attribute [local go_sem] max2_int min2_int max_two min_two max_three min_three max_four min_four   -- for this text's walks alone
set_option maxHeartbeats 8000000
set_option maxRecDepth 100000
set_option linter.unusedVariables false
set_option linter.unusedSimpArgs false
mutual
def spec_l1Rd_cart.l0 : Nat → Bool → Int → List Int → Int → ByteArray → Int → Int → ByteArray → Int → Bool → Int → Option (ByteArray × Int × Int × ByteArray × Int × Bool × Int × Int)
 | 0, _, _, _, _, _, _, _, _, _, _, _ => none
 | k + 1, x4, x5, x1000, x1001, x459000, x459001, x459002, x459003, x459004, x459005, x459006 => if x5 > 0 then (spec_l1Rd_cart.j1 k x5 x4 x1000 x1001 x459000 x459001 x459002 x459003 x459004 x459005 x459006) else (spec_l1Rd_cart.j1 k x5 false x1000 x1001 x459000 x459001 x459002 x459003 x459004 x459005 x459006)
def spec_l1Rd_cart.j1 : Nat → Int → Bool → List Int → Int → ByteArray → Int → Int → ByteArray → Int → Bool → Int → Option (ByteArray × Int × Int × ByteArray × Int × Bool × Int × Int)
 | 0, _, _, _, _, _, _, _, _, _, _, _ => none
 | k + 1, x5, x20, x1000, x1001, x459000, x459001, x459002, x459003, x459004, x459005, x459006 => if x20 = true then ((spec_l1Rd_addr.f k x1000 x1001).bind fun bt461 => ((spec_l1Rd_byte.f x1000 bt461.2).bind fun bt463 => ((spec_CartWrite.f k x459000 x459001 x459002 x459003 x459004 x459005 x459006 bt461.1 bt463.1).bind fun bt465 => (spec_l1Rd_cart.l0 k bt465.2.2.2.2.2.2.2 (wrap64 (x5 - 1)) x1000 bt463.2 bt465.1 bt465.2.1 bt465.2.2.1 bt465.2.2.2.1 bt465.2.2.2.2.1 bt465.2.2.2.2.2.1 bt465.2.2.2.2.2.2.1)))) else ((spec_l1Rd_once.f x1000 x1001 30).bind fun bt473 => (if bt473.1 = true then ((spec_l1Rd_off.f k x1000 bt473.2 0 31).bind fun bt475 => (some (x459000, x459001, bt475.1, x459003, x459004, x459005, x459006, bt475.2))) else (some (x459000, x459001, x459002, x459003, x459004, x459005, x459006, bt473.2))))
end
def spec_l1Rd_cart.f (k : Nat) (s0_0 : List Int) (s0_1 : Int) : Option (ByteArray × Int × Int × ByteArray × Int × Bool × Int × Int) := (spec_l1Rd_rom.f k s0_0 s0_1).bind fun bt446 => ((spec_l1Rd_below.f s0_0 bt446.2 3).bind fun bt448 => ((spec_CartNew.f k bt446.1 bt448.1).bind fun bt450 => ((spec_l1Rd_below.f s0_0 bt448.2 6).bind fun bt459 => (spec_l1Rd_cart.l0 k bt450.2.2.2.2.2.2.2 bt459.1 s0_0 bt459.2 bt450.1 bt450.2.1 bt450.2.2.1 bt450.2.2.2.1 bt450.2.2.2.2.1 bt450.2.2.2.2.2.1 bt450.2.2.2.2.2.2.1))))
theorem spec_l1Rd_cart.mono_l : ∀ k, (∀ y0 y1 y2 y3 y4 y5 y6 y7 y8 y9 y10, LeO (spec_l1Rd_cart.l0 k y0 y1 y2 y3 y4 y5 y6 y7 y8 y9 y10) (spec_l1Rd_cart.l0 (k + 1) y0 y1 y2 y3 y4 y5 y6 y7 y8 y9 y10)) ∧ (∀ y0 y1 y2 y3 y4 y5 y6 y7 y8 y9 y10, LeO (spec_l1Rd_cart.j1 k y0 y1 y2 y3 y4 y5 y6 y7 y8 y9 y10) (spec_l1Rd_cart.j1 (k + 1) y0 y1 y2 y3 y4 y5 y6 y7 y8 y9 y10))
 | 0 => ⟨fun _ _ _ _ _ _ _ _ _ _ _ r h => by simp [spec_l1Rd_cart.l0] at h, fun _ _ _ _ _ _ _ _ _ _ _ r h => by simp [spec_l1Rd_cart.j1] at h⟩
 | k + 1 => by
  obtain ⟨ih0, ih1⟩ := spec_l1Rd_cart.mono_l k
  refine ⟨?_, ?_⟩
  ·intro y0 y1 y2 y3 y4 y5 y6 y7 y8 y9 y10
   unfold spec_l1Rd_cart.l0
   repeat' first
   | (with_reducible first | exact ih0 _ _ _ _ _ _ _ _ _ _ _ | exact ih1 _ _ _ _ _ _ _ _ _ _ _ | exact spec_CartNew.mono _ _ _ | exact spec_CartWrite.mono _ _ _ _ _ _ _ _ _ _ | exact spec_l1Rd_addr.mono _ _ _ | exact spec_l1Rd_off.mono _ _ _ _ _ | exact spec_l1Rd_rom.mono _ _ _ | exact LeO.refl _ | exact LeO.none _ | refine LeO.ite ?_ ?_ | refine LeO.bind ?_ (fun _ => ?_))
   | exact ih0 _ _ _ _ _ _ _ _ _ _ _
   | exact ih1 _ _ _ _ _ _ _ _ _ _ _
   | exact spec_CartNew.mono _ _ _
   | exact spec_CartWrite.mono _ _ _ _ _ _ _ _ _ _
   | exact spec_l1Rd_addr.mono _ _ _
   | exact spec_l1Rd_off.mono _ _ _ _ _
   | exact spec_l1Rd_rom.mono _ _ _
   | exact LeO.none _
   | refine LeO.ite ?_ ?_
   | refine LeO.bind ?_ (fun _ => ?_)
  ·intro y0 y1 y2 y3 y4 y5 y6 y7 y8 y9 y10
   unfold spec_l1Rd_cart.j1
   repeat' first
   | (with_reducible first | exact ih0 _ _ _ _ _ _ _ _ _ _ _ | exact ih1 _ _ _ _ _ _ _ _ _ _ _ | exact spec_CartNew.mono _ _ _ | exact spec_CartWrite.mono _ _ _ _ _ _ _ _ _ _ | exact spec_l1Rd_addr.mono _ _ _ | exact spec_l1Rd_off.mono _ _ _ _ _ | exact spec_l1Rd_rom.mono _ _ _ | exact LeO.refl _ | exact LeO.none _ | refine LeO.ite ?_ ?_ | refine LeO.bind ?_ (fun _ => ?_))
   | exact ih0 _ _ _ _ _ _ _ _ _ _ _
   | exact ih1 _ _ _ _ _ _ _ _ _ _ _
   | exact spec_CartNew.mono _ _ _
   | exact spec_CartWrite.mono _ _ _ _ _ _ _ _ _ _
   | exact spec_l1Rd_addr.mono _ _ _
   | exact spec_l1Rd_off.mono _ _ _ _ _
   | exact spec_l1Rd_rom.mono _ _ _
   | exact LeO.none _
   | refine LeO.ite ?_ ?_
   | refine LeO.bind ?_ (fun _ => ?_)
theorem spec_l1Rd_cart.mono : ∀ a0 a1 k, LeO (spec_l1Rd_cart.f k a0 a1) (spec_l1Rd_cart.f (k + 1) a0 a1) := by
 intro a0 a1 k
 obtain ⟨ih0, ih1⟩ := spec_l1Rd_cart.mono_l k
 unfold spec_l1Rd_cart.f
 repeat' first
   | (with_reducible first | exact ih0 _ _ _ _ _ _ _ _ _ _ _ | exact ih1 _ _ _ _ _ _ _ _ _ _ _ | exact spec_CartNew.mono _ _ _ | exact spec_CartWrite.mono _ _ _ _ _ _ _ _ _ _ | exact spec_l1Rd_addr.mono _ _ _ | exact spec_l1Rd_off.mono _ _ _ _ _ | exact spec_l1Rd_rom.mono _ _ _ | exact LeO.refl _ | exact LeO.none _ | refine LeO.ite ?_ ?_ | refine LeO.bind ?_ (fun _ => ?_))
   | exact ih0 _ _ _ _ _ _ _ _ _ _ _
   | exact ih1 _ _ _ _ _ _ _ _ _ _ _
   | exact spec_CartNew.mono _ _ _
   | exact spec_CartWrite.mono _ _ _ _ _ _ _ _ _ _
   | exact spec_l1Rd_addr.mono _ _ _
   | exact spec_l1Rd_off.mono _ _ _ _ _
   | exact spec_l1Rd_rom.mono _ _ _
   | exact LeO.none _
   | refine LeO.ite ?_ ?_
   | refine LeO.bind ?_ (fun _ => ?_)
def spec_l1Rd_cart.T5 : Bool × List (List Nat × List Nat) := (true, [([], []), ([], []), ([1], [1]), ([], []), ([3, 2], [3]), ([0, 2, 4, 4], [0, 2, 4]), ([5], [5]), ([6], [6]), ([6], [6]), ([7, 5, 0, 1, 2, 3, 4, 5, 6, 7], [7]), ([8, 9, 0, 1, 2, 3, 4, 5, 6, 7, 8, 9], [8])])
def spec_l1Rd_cart.B5 : List Nat := [0, 0, 2, 0, 14, 31, 63, 127, 127, 255, 1023]
theorem spec_l1Rd_cart.tab5 : rtab .any (opsOf Try.f54 5) = spec_l1Rd_cart.T5 := by kernel_rfl
theorem spec_l1Rd_cart.bits5 : waitsOk spec_l1Rd_cart.T5.2 spec_l1Rd_cart.B5 = true := by kernel_rfl
theorem spec_l1Rd_cart.calls (k : Nat) (g : Nat) (s0_0 : List Int) (s0_1 : Int) (r1 : ByteArray) (r2 : Int) (r3 : Int) (r4 : ByteArray) (r5 : Int) (r6 : Bool) (r7 : Int) (r8 : Int) (w0 w : World) (hI : IsS78 w0 w g s0_0 s0_1) (hB : Below w0.heap.size w0 w) (h : spec_l1Rd_cart.f k s0_0 s0_1 = some (r1, r2, r3, r4, r5, r6, r7, r8)) :
  Calls Try.prog 54 #[.pointer (some ⟨g, 0, none⟩)] w fun e w' => e = .returned (.agg #[.string r1, .int .i64 r2, .int .i64 r3, .string r4, .int .i64 r5, .bool r6, .int .i64 r7]) ∧ IsS78 w0 w' g s0_0 r8 ∧ Below w0.heap.size w0 w' ∧ KeepBut w w' g none := by
 have hu32 := Try.underlying32
 have HI0 := Aside0.mk hI
 have HK := Aside0.mk (KeepBut.refl w g none)
 have HL := Aside0.mk hB.size
 clear hI
 have HW0 := Aside0.mk hB.size
 have HB := Aside0.mk hB
 clear hB
 have H : ((spec_l1Rd_rom.f k s0_0 s0_1).bind fun bt446 => ((spec_l1Rd_below.f s0_0 bt446.2 3).bind fun bt448 => ((spec_CartNew.f k bt446.1 bt448.1).bind fun bt450 => ((spec_l1Rd_below.f s0_0 bt448.2 6).bind fun bt459 => (spec_l1Rd_cart.l0 k bt450.2.2.2.2.2.2.2 bt459.1 s0_0 bt459.2 bt450.1 bt450.2.1 bt450.2.2.1 bt450.2.2.2.1 bt450.2.2.2.2.1 bt450.2.2.2.2.2.1 bt450.2.2.2.2.2.2.1))))) = some (r1, r2, r3, r4, r5, r6, r7, r8) := h
 clear h
 replace H := Option.bind_eq_some_iff.mp H
 obtain ⟨⟨t446, t447⟩, A20, H⟩ := H
 replace H : ((spec_l1Rd_below.f s0_0 t447 3).bind fun bt448 => ((spec_CartNew.f k t446 bt448.1).bind fun bt450 => ((spec_l1Rd_below.f s0_0 bt448.2 6).bind fun bt459 => (spec_l1Rd_cart.l0 k bt450.2.2.2.2.2.2.2 bt459.1 s0_0 bt459.2 bt450.1 bt450.2.1 bt450.2.2.1 bt450.2.2.2.1 bt450.2.2.2.2.1 bt450.2.2.2.2.2.1 bt450.2.2.2.2.2.2.1)))) = some (r1, r2, r3, r4, r5, r6, r7, r8) := H
 have A2 := Aside0.mk A20
 clear A20
 replace H := Option.bind_eq_some_iff.mp H
 obtain ⟨⟨t448, t449⟩, A30, H⟩ := H
 replace H : ((spec_CartNew.f k t446 t448).bind fun bt450 => ((spec_l1Rd_below.f s0_0 t449 6).bind fun bt459 => (spec_l1Rd_cart.l0 k bt450.2.2.2.2.2.2.2 bt459.1 s0_0 bt459.2 bt450.1 bt450.2.1 bt450.2.2.1 bt450.2.2.2.1 bt450.2.2.2.2.1 bt450.2.2.2.2.2.1 bt450.2.2.2.2.2.2.1))) = some (r1, r2, r3, r4, r5, r6, r7, r8) := H
 have A3 := Aside0.mk A30
 clear A30
 replace H := Option.bind_eq_some_iff.mp H
 obtain ⟨⟨t450, t451, t452, t453, t454, t455, t456, t457⟩, A40, H⟩ := H
 replace H : ((spec_l1Rd_below.f s0_0 t449 6).bind fun bt459 => (spec_l1Rd_cart.l0 k t457 bt459.1 s0_0 bt459.2 t450 t451 t452 t453 t454 t455 t456)) = some (r1, r2, r3, r4, r5, r6, r7, r8) := H
 have A4 := Aside0.mk A40
 clear A40
 replace H := Option.bind_eq_some_iff.mp H
 obtain ⟨⟨t459, t460⟩, A50, H⟩ := H
 replace H : (spec_l1Rd_cart.l0 k t457 t459 s0_0 t460 t450 t451 t452 t453 t454 t455 t456) = some (r1, r2, r3, r4, r5, r6, r7, r8) := H
 have A5 := Aside0.mk A50
 clear A50
 have H' := Aside0.mk H
 clear H
 go_enter Try.func54, Try.ntmps54
 go_wp2_with (first | ((with_reducible refine gate_dst (N := 2) rfl ?_); refine box_event ?hg (N := 2) ?hd (cs := #[.string (⟨#[]⟩ : ByteArray), .int .i64 0, .int .i64 0, .string (⟨#[]⟩ : ByteArray), .int .i64 0, .bool false, .int .i64 0]) (t := 32) ?hr ?_; (case hd => rfl); (case hg => rfl); (case hr => exact q138_); intro gb445 hg w6 hbox hb; have n0_ := Aside0.mk (IsS78.below q69_ hb); have n1_ := Aside0.mk (KeepBut.trans q70_ (KeepBut.of_below hb g none) (.inl rfl)); have n2_ := Aside0.mk (below_step q50_ hb); have n3_ := Aside0.mk (hbox); have n4_ := Aside0.mk ((q33_ : w.heap.size ≤ gb445)); have n5_ := Aside0.mk ((Nat.le_trans HW0.out (q33_ : w.heap.size ≤ gb445) : w0.heap.size ≤ gb445)); have n6_ := Aside0.mk ((q24_ : g ≠ gb445)); have n7_ := Aside0.mk ((q25_ : gb445 ≠ g)); clear HI0; clear HK; clear HB; have HI0 := n0_; have HK := n1_; have HB := n2_; have BK445 := n3_; have GW445 := n4_; have GE445 := n5_; have NB0_445 := n6_; have NB445_0 := n7_; clear n0_ n1_ n2_ n3_ n4_ n5_ n6_ n7_; clear hb hbox hg) | ((with_reducible refine gate_callee (f := 69) rfl ?_); refine goesL_ (some 8) rfl rfl Try.func69 (by kernel_rfl) rfl #[.pointer (some ⟨g, 0, none⟩)] rfl q74_ ?_; (with_reducible refine (spec_l1Rd_rom.calls k g s0_0 s0_1 t446 t447 w0 _ ?side1 ?side2 A2.out).mono ?_); (case side1 => exact q134_); (case side2 => exact q132_); rintro e w7 ⟨rfl, hi, hb, hk⟩; refine ⟨_, rfl, ?_⟩; have n0_ := Aside0.mk (KeepBut.blk hk (g' := gb445) (o := .cells #[.string (⟨#[]⟩ : ByteArray), .int .i64 0, .int .i64 0, .string (⟨#[]⟩ : ByteArray), .int .i64 0, .bool false, .int .i64 0] 32 (0, 0)) q91_ NB445_0.out (by simp)); have n1_ := Aside0.mk (KeepBut.trans q49_ hk (.inl rfl)); have n2_ := Aside0.mk (hb); have n3_ := Aside0.mk (hi); clear BK445; clear HK; clear HB; clear HI0; have BK445 := n0_; have HK := n1_; have HB := n2_; have HI0 := n3_; clear n0_ n1_ n2_ n3_; (try clear hb); (try clear hk); (try clear hi)) | ((with_reducible refine gate_callee (f := 37) rfl ?_); refine goesL_ (some 10) rfl rfl Try.func37 (by kernel_rfl) rfl #[.pointer (some ⟨g, 0, none⟩), .int .i64 3] rfl q74_ ?_; (with_reducible refine (spec_l1Rd_below.calls g s0_0 t447 3 t448 t449 w0 _ ?side1 ?side2 A3.out).mono ?_); (case side1 => exact q134_); (case side2 => exact q132_); rintro e w8 ⟨rfl, hi, hb, hk⟩; refine ⟨_, rfl, ?_⟩; have n0_ := Aside0.mk (KeepBut.blk hk (g' := gb445) (o := .cells #[.string (⟨#[]⟩ : ByteArray), .int .i64 0, .int .i64 0, .string (⟨#[]⟩ : ByteArray), .int .i64 0, .bool false, .int .i64 0] 32 (0, 0)) q91_ NB445_0.out (by simp)); have n1_ := Aside0.mk (KeepBut.trans q49_ hk (.inl rfl)); have n2_ := Aside0.mk (hb); have n3_ := Aside0.mk (hi); clear BK445; clear HK; clear HB; clear HI0; have BK445 := n0_; have HK := n1_; have HB := n2_; have HI0 := n3_; clear n0_ n1_ n2_ n3_; (try clear hb); (try clear hk); (try clear hi)) | ((with_reducible refine gate_callee (f := 30) rfl ?_); refine goesL_ (some 11) rfl rfl Try.func30 (by kernel_rfl) rfl #[.string t446, .int .i64 t448] rfl q74_ ?_; (with_reducible refine (spec_CartNew.calls k t446 t448 t450 t451 t452 t453 t454 t455 t456 t457 _ A4.out).mono ?_); rintro e w9 ⟨rfl, hb⟩; refine ⟨_, rfl, ?_⟩; have n0_ := Aside0.mk (IsS78.below q46_ hb); have n1_ := Aside0.mk (blk_below (g := gb445) (o := .cells #[.string (⟨#[]⟩ : ByteArray), .int .i64 0, .int .i64 0, .string (⟨#[]⟩ : ByteArray), .int .i64 0, .bool false, .int .i64 0] 32 (0, 0)) q91_ hb); have n2_ := Aside0.mk (KeepBut.trans q49_ (KeepBut.of_below hb g none) (.inl rfl)); have n3_ := Aside0.mk (below_step q34_ hb); clear HI0; clear BK445; clear HK; clear HB; have HI0 := n0_; have BK445 := n1_; have HK := n2_; have HB := n3_; clear n0_ n1_ n2_ n3_; (try clear hb)) | ((with_reducible refine gate_dst (N := 3) rfl ?_); refine box_event ?hg (N := 3) ?hd (cs := #[.string (⟨#[]⟩ : ByteArray), .int .i64 0, .int .i64 0, .string (⟨#[]⟩ : ByteArray), .int .i64 0, .bool false, .int .i64 0]) (t := 32) ?hr ?_; (case hd => rfl); (case hg => rfl); (case hr => exact q138_); intro gb458 hg w10 hbox hb; have n0_ := Aside0.mk (IsS78.below q46_ hb); have n1_ := Aside0.mk (blk_below (g := gb445) (o := .cells #[.string (⟨#[]⟩ : ByteArray), .int .i64 0, .int .i64 0, .string (⟨#[]⟩ : ByteArray), .int .i64 0, .bool false, .int .i64 0] 32 (0, 0)) q91_ hb); have n2_ := Aside0.mk (KeepBut.trans q49_ (KeepBut.of_below hb g none) (.inl rfl)); have n3_ := Aside0.mk (below_step q34_ hb); have n4_ := Aside0.mk (hbox); have n5_ := Aside0.mk ((q18_ : w.heap.size ≤ gb458)); have n6_ := Aside0.mk ((Nat.le_trans HW0.out (q18_ : w.heap.size ≤ gb458) : w0.heap.size ≤ gb458)); have n7_ := Aside0.mk ((by rw [hg]; exact Nat.ne_of_lt (blk_lt (g := gb445) (o := .cells #[.string (⟨#[]⟩ : ByteArray), .int .i64 0, .int .i64 0, .string (⟨#[]⟩ : ByteArray), .int .i64 0, .bool false, .int .i64 0] 32 (0, 0)) q91_) : gb445 ≠ gb458)); have n8_ := Aside0.mk ((by rw [hg]; exact Nat.ne_of_gt (blk_lt (g := gb445) (o := .cells #[.string (⟨#[]⟩ : ByteArray), .int .i64 0, .int .i64 0, .string (⟨#[]⟩ : ByteArray), .int .i64 0, .bool false, .int .i64 0] 32 (0, 0)) q91_) : gb458 ≠ gb445)); have n9_ := Aside0.mk ((by rw [hg]; exact Nat.ne_of_lt (IsS78.lt (show IsS78 w0 _ g s0_0 t449 from by repeat (first | (with_reducible first | exact HI0.out | apply IsS78.alloc | apply IsS78.drewN | apply IsS78.drew | apply IsS78.set_1 | refine IsS78.far ?_ NB0_445.out _) | exact HI0.out))) : g ≠ gb458)); have n10_ := Aside0.mk ((by rw [hg]; exact Nat.ne_of_gt (IsS78.lt (show IsS78 w0 _ g s0_0 t449 from by repeat (first | (with_reducible first | exact HI0.out | apply IsS78.alloc | apply IsS78.drewN | apply IsS78.drew | apply IsS78.set_1 | refine IsS78.far ?_ NB0_445.out _) | exact HI0.out))) : gb458 ≠ g)); clear HI0; clear BK445; clear HK; clear HB; have HI0 := n0_; have BK445 := n1_; have HK := n2_; have HB := n3_; have BK458 := n4_; have GW458 := n5_; have GE458 := n6_; have NB445_458 := n7_; have NB458_445 := n8_; have NB0_458 := n9_; have NB458_0 := n10_; clear n0_ n1_ n2_ n3_ n4_ n5_ n6_ n7_ n8_ n9_ n10_; clear hb hbox hg; have hnb11 := NB458_445.out; have hnc11 := NB445_458.out; have hnb12 := NB458_0.out; have hnc12 := NB0_458.out; have hcz13_0 : w10.cell? ⟨gb458, 0, none⟩ = some (.string (⟨#[]⟩ : ByteArray)) := (blk_cell BK458.out 0).trans rfl; have hcz13_1 : w10.cell? ⟨gb458, 1, none⟩ = some (.int .i64 0) := (blk_cell BK458.out 1).trans rfl; have hcz13_2 : w10.cell? ⟨gb458, 2, none⟩ = some (.int .i64 0) := (blk_cell BK458.out 2).trans rfl; have hcz13_3 : w10.cell? ⟨gb458, 3, none⟩ = some (.string (⟨#[]⟩ : ByteArray)) := (blk_cell BK458.out 3).trans rfl; have hcz13_4 : w10.cell? ⟨gb458, 4, none⟩ = some (.int .i64 0) := (blk_cell BK458.out 4).trans rfl; have hcz13_5 : w10.cell? ⟨gb458, 5, none⟩ = some (.bool false) := (blk_cell BK458.out 5).trans rfl; have hcz13_6 : w10.cell? ⟨gb458, 6, none⟩ = some (.int .i64 0) := (blk_cell BK458.out 6).trans rfl; have hfz13_0 := blk_frozen BK458.out 0; have hfz13_1 := blk_frozen BK458.out 1; have hfz13_2 := blk_frozen BK458.out 2; have hfz13_3 := blk_frozen BK458.out 3; have hfz13_4 := blk_frozen BK458.out 4; have hfz13_5 := blk_frozen BK458.out 5; have hfz13_6 := blk_frozen BK458.out 6) | ((with_reducible refine gate_callee (f := 37) rfl ?_); refine goesL_ (some 15) rfl rfl Try.func37 (by kernel_rfl) rfl #[.pointer (some ⟨g, 0, none⟩), .int .i64 6] rfl q74_ ?_; (with_reducible refine (spec_l1Rd_below.calls g s0_0 t449 6 t459 t460 w0 _ ?side1 ?side2 A5.out).mono ?_); (case side1 => exact q130_); (case side2 => exact q127_); rintro e w14 ⟨rfl, hi, hb, hk⟩; refine ⟨_, rfl, ?_⟩; have n0_ := Aside0.mk (KeepBut.blk hk (g' := gb445) (o := .cells #[.string (⟨#[]⟩ : ByteArray), .int .i64 0, .int .i64 0, .string (⟨#[]⟩ : ByteArray), .int .i64 0, .bool false, .int .i64 0] 32 (0, 0)) q4_ NB445_0.out (by simp)); have n1_ := Aside0.mk (KeepBut.blk hk (g' := gb458) (o := .cells #[.string t450, .int .i64 t451, .int .i64 t452, .string t453, .int .i64 t454, .bool t455, .int .i64 t456] 32 (0, 0)) (by (with_reducible repeat (first | refine blk_drewN ?_ _ | refine blk_drew ?_ | refine blk_alloc ?_ _)); refine blk_put (cs := #[.string t450, .int .i64 t451, .int .i64 t452, .string t453, .int .i64 t454, .bool t455, .int .i64 0]) ?_ 6 _ rfl; (with_reducible repeat (first | refine blk_drewN ?_ _ | refine blk_drew ?_ | refine blk_alloc ?_ _)); refine blk_put (cs := #[.string t450, .int .i64 t451, .int .i64 t452, .string t453, .int .i64 t454, .bool false, .int .i64 0]) ?_ 5 _ rfl; (with_reducible repeat (first | refine blk_drewN ?_ _ | refine blk_drew ?_ | refine blk_alloc ?_ _)); refine blk_put (cs := #[.string t450, .int .i64 t451, .int .i64 t452, .string t453, .int .i64 0, .bool false, .int .i64 0]) ?_ 4 _ rfl; (with_reducible repeat (first | refine blk_drewN ?_ _ | refine blk_drew ?_ | refine blk_alloc ?_ _)); refine blk_put (cs := #[.string t450, .int .i64 t451, .int .i64 t452, .string (⟨#[]⟩ : ByteArray), .int .i64 0, .bool false, .int .i64 0]) ?_ 3 _ rfl; (with_reducible repeat (first | refine blk_drewN ?_ _ | refine blk_drew ?_ | refine blk_alloc ?_ _)); refine blk_put (cs := #[.string t450, .int .i64 t451, .int .i64 0, .string (⟨#[]⟩ : ByteArray), .int .i64 0, .bool false, .int .i64 0]) ?_ 2 _ rfl; (with_reducible repeat (first | refine blk_drewN ?_ _ | refine blk_drew ?_ | refine blk_alloc ?_ _)); refine blk_put (cs := #[.string t450, .int .i64 0, .int .i64 0, .string (⟨#[]⟩ : ByteArray), .int .i64 0, .bool false, .int .i64 0]) ?_ 1 _ rfl; (with_reducible repeat (first | refine blk_drewN ?_ _ | refine blk_drew ?_ | refine blk_alloc ?_ _)); refine blk_put (cs := #[.string (⟨#[]⟩ : ByteArray), .int .i64 0, .int .i64 0, .string (⟨#[]⟩ : ByteArray), .int .i64 0, .bool false, .int .i64 0]) ?_ 0 _ rfl; (with_reducible repeat (first | refine blk_drewN ?_ _ | refine blk_drew ?_ | refine blk_alloc ?_ _)); exact BK458.out) NB458_0.out (by simp)); have n2_ := Aside0.mk (KeepBut.trans q32_ hk (.inl rfl)); have n3_ := Aside0.mk (hb); have n4_ := Aside0.mk (hi); clear BK445; clear BK458; clear HK; clear HB; clear HI0; have BK445 := n0_; have BK458 := n1_; have HK := n2_; have HB := n3_; have HI0 := n4_; clear n0_ n1_ n2_ n3_ n4_; (try clear hb); (try clear hk); (try clear hi)))
 go_loopg [4, 5] k (fun kq v4 v5 w' => ∃ (x4_1 : Bool) (x5_1 : Int) (x1001_1 : Int) (x459000_1 : ByteArray) (x459001_1 : Int) (x459002_1 : Int) (x459003_1 : ByteArray) (x459004_1 : Int) (x459005_1 : Bool) (x459006_1 : Int), v4 = .bool x4_1 ∧ v5 = .int .i64 x5_1 ∧ Aside0 (spec_l1Rd_cart.l0 kq x4_1 x5_1 s0_0 x1001_1 x459000_1 x459001_1 x459002_1 x459003_1 x459004_1 x459005_1 x459006_1 = some (r1, r2, r3, r4, r5, r6, r7, r8)) ∧ Aside0 (kq ≤ k) ∧ Aside0 (w'.heap[gb445]? = some (.cells #[.string (⟨#[]⟩ : ByteArray), .int .i64 0, .int .i64 0, .string (⟨#[]⟩ : ByteArray), .int .i64 0, .bool false, .int .i64 0] 32 (0, 0))) ∧ Aside0 (w'.heap[gb458]? = some (.cells #[.string x459000_1, .int .i64 x459001_1, .int .i64 x459002_1, .string x459003_1, .int .i64 x459004_1, .bool x459005_1, .int .i64 x459006_1] 32 (0, 0))) ∧ Aside0 (IsS78 w0 w' g s0_0 x1001_1) ∧ Aside0 (KeepBut w w' g none) ∧ Aside0 (Below w0.heap.size w0 w'))
 case atStart => exact ⟨(t457), (t459), (t460), (t450), (t451), (t452), (t453), (t454), (t455), (t456), q101_, q101_, H', ⟨Nat.le_refl _⟩, ⟨q91_⟩, ⟨q92_⟩, ⟨q28_⟩, ⟨q32_⟩, ⟨q23_⟩⟩
 case round =>
  clear H'
  try clear c1
  try clear p2
  try clear c3
  try clear c5
  try clear c6
  try clear p6
  try clear c11
  try clear c12
  try clear hcz13_0 hcz13_1 hcz13_2 hcz13_3 hcz13_4 hcz13_5 hcz13_6
  try clear hfz13_0 hfz13_1 hfz13_2 hfz13_3 hfz13_4 hfz13_5 hfz13_6
  obtain ⟨x4_1, x5_1, x1001_1, x459000_1, x459001_1, x459002_1, x459003_1, x459004_1, x459005_1, x459006_1, rfl, rfl, HA, HK1, BK445, BK458, HI0, HK, HB⟩ := hrel
  cases gk with
  | zero => exact absurd HA.out (by simp [spec_l1Rd_cart.l0])
  | succ k1 =>
   have H := HA.out
   clear HA
   simp only [spec_l1Rd_cart.l0] at H
   have HC15 := Aside0.mk H
   clear H
   go_upto_region 3 with (fail)
   go_cut [20] (fun v20 wc => ∃ (kq : Nat) (x20_14 : Bool), v20 = .bool x20_14 ∧ Aside0 (spec_l1Rd_cart.j1 kq x5_1 x20_14 s0_0 x1001_1 x459000_1 x459001_1 x459002_1 x459003_1 x459004_1 x459005_1 x459006_1 = some (r1, r2, r3, r4, r5, r6, r7, r8)) ∧ Aside0 (kq ≤ k1) ∧ Aside0 (wc.heap[gb445]? = some (.cells #[.string (⟨#[]⟩ : ByteArray), .int .i64 0, .int .i64 0, .string (⟨#[]⟩ : ByteArray), .int .i64 0, .bool false, .int .i64 0] 32 (0, 0))) ∧ Aside0 (wc.heap[gb458]? = some (.cells #[.string x459000_1, .int .i64 x459001_1, .int .i64 x459002_1, .string x459003_1, .int .i64 x459004_1, .bool x459005_1, .int .i64 x459006_1] 32 (0, 0))) ∧ Aside0 (IsS78 w0 wc g s0_0 x1001_1) ∧ Aside0 (KeepBut w wc g none) ∧ Aside0 (Below w0.heap.size w0 wc))
   case first =>
    have H := HC15.out
    clear HC15
    by_cases c16 : x5_1 > 0
    ·rw [if_pos c16] at H
     have c16b0 : decide (0 < x5_1) = true := decide_eq_true c16
     clear c16
     (first | rw [c16b0] | (simp only [i64_w, i32_w]; rw [c16b0]) | skip)
     have H' := Aside0.mk H
     clear H
     go_wp2
     go_meet
     case rel => exact ⟨_, (x4_1), q101_, H', ⟨by have := HK1.out; first | omega | exact Nat.le_refl _⟩, ⟨q91_⟩, ⟨q92_⟩, ⟨q28_⟩, ⟨q32_⟩, ⟨q23_⟩⟩
    ·rw [if_neg c16] at H
     have c16b0 : decide (0 < x5_1) = false := decide_eq_false c16
     clear c16
     (first | rw [c16b0] | (simp only [i64_w, i32_w]; rw [c16b0]) | skip)
     have H' := Aside0.mk H
     clear H
     go_wp2
     go_meet
     case rel => exact ⟨_, (false), q101_, H', ⟨by have := HK1.out; first | omega | exact Nat.le_refl _⟩, ⟨q91_⟩, ⟨q92_⟩, ⟨q28_⟩, ⟨q32_⟩, ⟨q23_⟩⟩
   case rest =>
    clear HC15
    try clear c1
    try clear p2 p2
    try clear c3
    try clear c5
    try clear c6
    try clear p6 p6
    try clear c11
    try clear c12
    try clear c16
    try clear c16b0
    try clear hcz13_0 hcz13_1 hcz13_2 hcz13_3 hcz13_4 hcz13_5 hcz13_6
    try clear hfz13_0 hfz13_1 hfz13_2 hfz13_3 hfz13_4 hfz13_5 hfz13_6
    obtain ⟨kq, x20_14, rfl, HA, HJ14, BK445, BK458, HI0, HK, HB⟩ := hcut
    cases kq with
    | zero => exact absurd HA.out (by simp [spec_l1Rd_cart.j1])
    | succ kj14 =>
     have H := HA.out
     clear HA
     simp only [spec_l1Rd_cart.j1] at H
     by_cases c17 : x20_14 = true
     ·subst c17
      replace H : ((spec_l1Rd_addr.f kj14 s0_0 x1001_1).bind fun bt461 => ((spec_l1Rd_byte.f s0_0 bt461.2).bind fun bt463 => ((spec_CartWrite.f kj14 x459000_1 x459001_1 x459002_1 x459003_1 x459004_1 x459005_1 x459006_1 bt461.1 bt463.1).bind fun bt465 => (spec_l1Rd_cart.l0 kj14 bt465.2.2.2.2.2.2.2 (wrap64 (x5_1 - 1)) s0_0 bt463.2 bt465.1 bt465.2.1 bt465.2.2.1 bt465.2.2.2.1 bt465.2.2.2.2.1 bt465.2.2.2.2.2.1 bt465.2.2.2.2.2.2.1)))) = some (r1, r2, r3, r4, r5, r6, r7, r8) := by rw [if_pos rfl] at H; exact H
      replace H := Option.bind_eq_some_iff.mp H
      obtain ⟨⟨t461, t462⟩, A180, H⟩ := H
      replace H : ((spec_l1Rd_byte.f s0_0 t462).bind fun bt463 => ((spec_CartWrite.f kj14 x459000_1 x459001_1 x459002_1 x459003_1 x459004_1 x459005_1 x459006_1 t461 bt463.1).bind fun bt465 => (spec_l1Rd_cart.l0 kj14 bt465.2.2.2.2.2.2.2 (wrap64 (x5_1 - 1)) s0_0 bt463.2 bt465.1 bt465.2.1 bt465.2.2.1 bt465.2.2.2.1 bt465.2.2.2.2.1 bt465.2.2.2.2.2.1 bt465.2.2.2.2.2.2.1))) = some (r1, r2, r3, r4, r5, r6, r7, r8) := H
      have A18 := Aside0.mk A180
      clear A180
      replace H := Option.bind_eq_some_iff.mp H
      obtain ⟨⟨t463, t464⟩, A190, H⟩ := H
      replace H : ((spec_CartWrite.f kj14 x459000_1 x459001_1 x459002_1 x459003_1 x459004_1 x459005_1 x459006_1 t461 t463).bind fun bt465 => (spec_l1Rd_cart.l0 kj14 bt465.2.2.2.2.2.2.2 (wrap64 (x5_1 - 1)) s0_0 t464 bt465.1 bt465.2.1 bt465.2.2.1 bt465.2.2.2.1 bt465.2.2.2.2.1 bt465.2.2.2.2.2.1 bt465.2.2.2.2.2.2.1)) = some (r1, r2, r3, r4, r5, r6, r7, r8) := H
      have A19 := Aside0.mk A190
      clear A190
      replace H := Option.bind_eq_some_iff.mp H
      obtain ⟨⟨t465, t466, t467, t468, t469, t470, t471, t472⟩, A200, H⟩ := H
      replace H : (spec_l1Rd_cart.l0 kj14 t472 (wrap64 (x5_1 - 1)) s0_0 t464 t465 t466 t467 t468 t469 t470 t471) = some (r1, r2, r3, r4, r5, r6, r7, r8) := H
      have A20 := Aside0.mk A200
      clear A200
      have H' := Aside0.mk H
      clear H
      try go_wp2
      have n0_ := Aside0.mk (blk_drew BK445.out)
      have n1_ := Aside0.mk (blk_drew BK458.out)
      have n2_ := Aside0.mk (IsS78.drew HI0.out)
      have n3_ := Aside0.mk (keep_drew HK.out)
      have n4_ := Aside0.mk (below_drew1 HB.out)
      clear BK445
      clear BK458
      clear HI0
      clear HK
      clear HB
      have BK445 := n0_
      have BK458 := n1_
      have HI0 := n2_
      have HK := n3_
      have HB := n4_
      clear n0_ n1_ n2_ n3_ n4_
      refine start_ (n := 11) (S := fun w' => w'.cell? ⟨gb458, 0, none⟩ = some (.string x459000_1) ∧ w'.cell? ⟨gb458, 1, none⟩ = some (.int .i64 x459001_1) ∧ w'.cell? ⟨gb458, 2, none⟩ = some (.int .i64 x459002_1) ∧ w'.cell? ⟨gb458, 3, none⟩ = some (.string x459003_1) ∧ w'.cell? ⟨gb458, 4, none⟩ = some (.int .i64 x459004_1) ∧ w'.cell? ⟨gb458, 5, none⟩ = some (.bool x459005_1) ∧ w'.cell? ⟨gb458, 6, none⟩ = some (.int .i64 x459006_1)) (ds := [9]) #[false, false, false, false, false, false, false, false, false, false, false] (by kernel_rfl) rfl rfl ⟨(blk_cell BK458.out 0).trans rfl, (blk_cell BK458.out 1).trans rfl, (blk_cell BK458.out 2).trans rfl, (blk_cell BK458.out 3).trans rfl, (blk_cell BK458.out 4).trans rfl, (blk_cell BK458.out 5).trans rfl, (blk_cell BK458.out 6).trans rfl⟩ (fun hHeld => ?_); refine with_tabW spec_l1Rd_cart.tab5 spec_l1Rd_cart.bits5 (fun HT_ HW_ => ?_)
      generalize wc.drew = w21 at BK445 BK458 HI0 HK HB hHeld ⊢
      refine pure_ (i := 1) (N := some 25) (v := ?_) (a' := ?_) #[false, true, false, false, false, false, false, false, false, false, false] rfl rfl (any_of HT_.out (by kernel_rfl)) (fun _ _ _ h => h) (Or.inl ⟨by rfl, ?_⟩) ?_ ?_
      rotate_left
      ·intro w'
       go_simp
       with_reducible rfl
      rotate_left
      ·simp only [Act.put, List.setIfInBounds_toArray, List.set_cons_zero, List.set_cons_succ, i64_w, i32_w]
       rfl
      refine pure_ (i := 3) (N := some 27) (v := ?_) (a' := ?_) #[false, true, false, true, false, false, false, false, false, false, false] rfl rfl (any_of HT_.out (by kernel_rfl)) (fun _ _ _ h => h) (Or.inl ⟨by rfl, ?_⟩) ?_ ?_
      rotate_left
      ·intro w'
       go_simp
       with_reducible rfl
      rotate_left
      ·simp only [Act.put, List.setIfInBounds_toArray, List.set_cons_zero, List.set_cons_succ, i64_w, i32_w]
       rfl
      refine take_ (i := 0) (N := some 24) (v := ?_) (a' := ?_) #[true, true, false, true, false, false, false, false, false, false, false] rfl rfl (take_ofW HT_.out HW_.out (by kernel_rfl)) (fun _ _ _ h => h) (Or.inl ⟨by rfl, ?_⟩) hHeld ?_ ?_
      rotate_left
      ·rintro w' ⟨s0, s1, s2, s3, s4, s5, s6⟩
       go_simp
       with_reducible rfl
      rotate_left
      ·simp only [Act.put, List.setIfInBounds_toArray, List.set_cons_zero, List.set_cons_succ, i64_w, i32_w]
       rfl
      refine one_ (i := 2) (N := some 26) #[true, true, true, true, false, false, false, false, false, false, false] rfl rfl (one_of HT_.out (by kernel_rfl)) (by decide) (fun K hK => ?_)
      refine goes_ Try.func55 (by kernel_rfl) rfl #[.pointer (some ⟨g, 0, none⟩)] (by rfl) rfl rfl q74_ ?_
      with_reducible refine (spec_l1Rd_addr.calls kj14 g s0_0 x1001_1 t461 t462 w0 _ ?side1 ?side2 A18.out).mono ?_
      (case side1 => exact q130_)
      (case side2 => exact q127_)
      rintro e w22 ⟨rfl, hi, hb, hk⟩
      refine ⟨_, rfl, ?_⟩
      have n0_ := Aside0.mk (KeepBut.blk hk (g' := gb445) (o := .cells #[.string (⟨#[]⟩ : ByteArray), .int .i64 0, .int .i64 0, .string (⟨#[]⟩ : ByteArray), .int .i64 0, .bool false, .int .i64 0] 32 (0, 0)) q91_ NB445_0.out (by simp))
      have n1_ := Aside0.mk (KeepBut.blk hk (g' := gb458) (o := .cells #[.string x459000_1, .int .i64 x459001_1, .int .i64 x459002_1, .string x459003_1, .int .i64 x459004_1, .bool x459005_1, .int .i64 x459006_1] 32 (0, 0)) q92_ NB458_0.out (by simp))
      have n2_ := Aside0.mk (KeepBut.trans q32_ hk (.inl rfl))
      have n3_ := Aside0.mk (hb)
      have n4_ := Aside0.mk (hi)
      clear BK445
      clear BK458
      clear HK
      clear HB
      clear HI0
      have BK445 := n0_
      have BK458 := n1_
      have HK := n2_
      have HB := n3_
      have HI0 := n4_
      clear n0_ n1_ n2_ n3_ n4_
      (try clear hb)
      (try clear hb2)
      (try clear hk)
      (try clear hi)
      refine hK.out _ _ ⟨(blk_cell BK458.out 0).trans rfl, (blk_cell BK458.out 1).trans rfl, (blk_cell BK458.out 2).trans rfl, (blk_cell BK458.out 3).trans rfl, (blk_cell BK458.out 4).trans rfl, (blk_cell BK458.out 5).trans rfl, (blk_cell BK458.out 6).trans rfl⟩ (fun hHeld => ?_)
      clear hK K
      refine norm_ (a' := ?_) ?_ ?_
      rotate_left
      ·show Act.put _ (some 26) _ = _
       simp only [Act.put, List.setIfInBounds_toArray, List.set_cons_zero, List.set_cons_succ, i64_w, i32_w]
       rfl
      refine one_ (i := 4) (N := some 28) #[true, true, true, true, true, false, false, false, false, false, false] rfl rfl (one_of HT_.out (by kernel_rfl)) (by decide) (fun K hK => ?_)
      refine goes_ Try.func58 (by kernel_rfl) rfl #[.pointer (some ⟨g, 0, none⟩)] (by rfl) rfl rfl q74_ ?_
      with_reducible refine (spec_l1Rd_byte.calls g s0_0 t462 t463 t464 w0 _ ?side1 ?side2 A19.out).mono ?_
      (case side1 => exact q130_)
      (case side2 => exact q127_)
      rintro e w23 ⟨rfl, hi, hb, hk⟩
      refine ⟨_, rfl, ?_⟩
      have n0_ := Aside0.mk (KeepBut.blk hk (g' := gb445) (o := .cells #[.string (⟨#[]⟩ : ByteArray), .int .i64 0, .int .i64 0, .string (⟨#[]⟩ : ByteArray), .int .i64 0, .bool false, .int .i64 0] 32 (0, 0)) q91_ NB445_0.out (by simp))
      have n1_ := Aside0.mk (KeepBut.blk hk (g' := gb458) (o := .cells #[.string x459000_1, .int .i64 x459001_1, .int .i64 x459002_1, .string x459003_1, .int .i64 x459004_1, .bool x459005_1, .int .i64 x459006_1] 32 (0, 0)) q92_ NB458_0.out (by simp))
      have n2_ := Aside0.mk (KeepBut.trans q32_ hk (.inl rfl))
      have n3_ := Aside0.mk (hb)
      have n4_ := Aside0.mk (hi)
      clear BK445
      clear BK458
      clear HK
      clear HB
      clear HI0
      have BK445 := n0_
      have BK458 := n1_
      have HK := n2_
      have HB := n3_
      have HI0 := n4_
      clear n0_ n1_ n2_ n3_ n4_
      (try clear hb)
      (try clear hb2)
      (try clear hk)
      (try clear hi)
      refine hK.out _ _ ⟨(blk_cell BK458.out 0).trans rfl, (blk_cell BK458.out 1).trans rfl, (blk_cell BK458.out 2).trans rfl, (blk_cell BK458.out 3).trans rfl, (blk_cell BK458.out 4).trans rfl, (blk_cell BK458.out 5).trans rfl, (blk_cell BK458.out 6).trans rfl⟩ (fun hHeld => ?_)
      clear hK K
      refine norm_ (a' := ?_) ?_ ?_
      rotate_left
      ·show Act.put _ (some 28) _ = _
       simp only [Act.put, List.setIfInBounds_toArray, List.set_cons_zero, List.set_cons_succ, i64_w, i32_w]
       rfl
      refine one_ (i := 5) (N := some 29) #[true, true, true, true, true, true, false, false, false, false, false] rfl rfl (one_of HT_.out (by kernel_rfl)) (by decide) (fun K hK => ?_)
      refine goes_ Try.func19 (by kernel_rfl) rfl #[.agg #[.string x459000_1, .int .i64 x459001_1, .int .i64 x459002_1, .string x459003_1, .int .i64 x459004_1, .bool x459005_1, .int .i64 x459006_1], .int .i64 t461, .int .i64 t463] (by rfl) rfl rfl q74_ ?_
      with_reducible refine (spec_CartWrite.calls kj14 x459000_1 x459001_1 x459002_1 x459003_1 x459004_1 x459005_1 x459006_1 t461 t463 t465 t466 t467 t468 t469 t470 t471 t472 _ A20.out).mono ?_
      rintro e w24 ⟨rfl, hb⟩
      refine ⟨_, rfl, ?_⟩
      have n0_ := Aside0.mk (blk_below (g := gb445) (o := .cells #[.string (⟨#[]⟩ : ByteArray), .int .i64 0, .int .i64 0, .string (⟨#[]⟩ : ByteArray), .int .i64 0, .bool false, .int .i64 0] 32 (0, 0)) q91_ hb)
      have n1_ := Aside0.mk (blk_below (g := gb458) (o := .cells #[.string x459000_1, .int .i64 x459001_1, .int .i64 x459002_1, .string x459003_1, .int .i64 x459004_1, .bool x459005_1, .int .i64 x459006_1] 32 (0, 0)) q92_ hb)
      have n2_ := Aside0.mk (IsS78.below q28_ hb)
      have n3_ := Aside0.mk (KeepBut.trans q32_ (KeepBut.of_below hb g none) (.inl rfl))
      have n4_ := Aside0.mk (below_step q23_ hb)
      clear BK445
      clear BK458
      clear HI0
      clear HK
      clear HB
      have BK445 := n0_
      have BK458 := n1_
      have HI0 := n2_
      have HK := n3_
      have HB := n4_
      clear n0_ n1_ n2_ n3_ n4_
      (try clear hb)
      (try clear hb2)
      (try clear hk)
      (try clear hi)
      refine hK.out _ _ ⟨(blk_cell BK458.out 0).trans rfl, (blk_cell BK458.out 1).trans rfl, (blk_cell BK458.out 2).trans rfl, (blk_cell BK458.out 3).trans rfl, (blk_cell BK458.out 4).trans rfl, (blk_cell BK458.out 5).trans rfl, (blk_cell BK458.out 6).trans rfl⟩ (fun hHeld => ?_)
      clear hK K
      refine norm_ (a' := ?_) ?_ ?_
      rotate_left
      ·show Act.put _ (some 29) _ = _
       simp only [Act.put, List.setIfInBounds_toArray, List.set_cons_zero, List.set_cons_succ, i64_w, i32_w]
       rfl
      refine pure_ (i := 6) (N := some 23) (v := ?_) (a' := ?_) #[true, true, true, true, true, true, true, false, false, false, false] rfl rfl (any_of HT_.out (by kernel_rfl)) (fun _ _ _ h => h) (Or.inl ⟨by rfl, ?_⟩) ?_ ?_
      rotate_left
      ·intro w'
       go_simp
       with_reducible rfl
      rotate_left
      ·simp only [Act.put, List.setIfInBounds_toArray, List.set_cons_zero, List.set_cons_succ, i64_w, i32_w]
       rfl
      refine pure_ (i := 7) (N := some 30) (v := ?_) (a' := ?_) #[true, true, true, true, true, true, true, true, false, false, false] rfl rfl (any_of HT_.out (by kernel_rfl)) (fun _ _ _ h => h) (Or.inl ⟨by rfl, ?_⟩) ?_ ?_
      rotate_left
      ·intro w'
       go_simp
       with_reducible rfl
      rotate_left
      ·simp only [Act.put, List.setIfInBounds_toArray, List.set_cons_zero, List.set_cons_succ, i64_w, i32_w]
       rfl
      refine pure_ (i := 8) (N := some 31) (v := ?_) (a' := ?_) #[true, true, true, true, true, true, true, true, true, false, false] rfl rfl (any_of HT_.out (by kernel_rfl)) (fun _ _ _ h => h) (Or.inl ⟨by rfl, ?_⟩) ?_ ?_
      rotate_left
      ·intro w'
       go_simp
       with_reducible rfl
      rotate_left
      ·simp only [Act.put, List.setIfInBounds_toArray, List.set_cons_zero, List.set_cons_succ, i64_w, i32_w]
       rfl
      refine last_ (i := 9) (N := none) #[true, true, true, true, true, true, true, true, true, true, false] rfl rfl (one_of HT_.out (by kernel_rfl)) (by decide) (fun K hK => ?_)
      have hs25 : w24.cell? ⟨gb458, 0, none⟩ = some (.string x459000_1) := bz_ BK458 0
      have hfs25 := blk_frozen BK458.out 0
      have hns25_0 := NB445_458.out
      have hms25_0 := NB458_445.out
      have hs26 : w24.cell? ⟨gb458, 1, none⟩ = some (.int .i64 x459001_1) := bz_ BK458 1
      have hfs26 := blk_frozen BK458.out 1
      have hns26_0 := NB445_458.out
      have hms26_0 := NB458_445.out
      have hs27 : w24.cell? ⟨gb458, 2, none⟩ = some (.int .i64 x459002_1) := bz_ BK458 2
      have hfs27 := blk_frozen BK458.out 2
      have hns27_0 := NB445_458.out
      have hms27_0 := NB458_445.out
      have hs28 : w24.cell? ⟨gb458, 3, none⟩ = some (.string x459003_1) := bz_ BK458 3
      have hfs28 := blk_frozen BK458.out 3
      have hns28_0 := NB445_458.out
      have hms28_0 := NB458_445.out
      have hs29 : w24.cell? ⟨gb458, 4, none⟩ = some (.int .i64 x459004_1) := bz_ BK458 4
      have hfs29 := blk_frozen BK458.out 4
      have hns29_0 := NB445_458.out
      have hms29_0 := NB458_445.out
      have hs30 : w24.cell? ⟨gb458, 5, none⟩ = some (.bool x459005_1) := bz_ BK458 5
      have hfs30 := blk_frozen BK458.out 5
      have hns30_0 := NB445_458.out
      have hms30_0 := NB458_445.out
      have hs31 : w24.cell? ⟨gb458, 6, none⟩ = some (.int .i64 x459006_1) := bz_ BK458 6
      have hfs31 := blk_frozen BK458.out 6
      have hns31_0 := NB445_458.out
      have hms31_0 := NB458_445.out
      refine skip_ (w1 := ?_) (by rfl) rfl ?_ ?_
      rotate_left
      ·go_simp
       rfl
      refine hK.out _ _ ?_
      clear hK K
      refine pure_ (i := 10) (N := some 4) (v := ?_) (a' := ?_) #[true, true, true, true, true, true, true, true, true, true, true] rfl rfl (any_of HT_.out (by kernel_rfl)) (fun _ _ _ h => h) (Or.inl ⟨by rfl, ?_⟩) ?_ ?_
      rotate_left
      ·intro w'
       go_simp
       with_reducible rfl
      rotate_left
      ·simp only [Act.put, List.setIfInBounds_toArray, List.set_cons_zero, List.set_cons_succ, i64_w, i32_w]
       rfl
      refine done_ (done_of HT_.out (by kernel_rfl)) ?_
      try go_wp2
      go_roundg kj14
      case measure => have := HK1.out; have := HJ14.out; omega
      case rel => exact ⟨(t472), (wrap64 (x5_1 - 1)), (t464), (t465), (t466), (t467), (t468), (t469), (t470), (t471), q101_, q101_, H', ⟨by have := HK1.out; have := HJ14.out; omega⟩, ⟨q4_⟩, ⟨by (with_reducible repeat (first | refine blk_drewN ?_ _ | refine blk_drew ?_ | refine blk_alloc ?_ _)); refine blk_put (cs := #[.string t465, .int .i64 t466, .int .i64 t467, .string t468, .int .i64 t469, .bool t470, .int .i64 x459006_1]) ?_ 6 _ rfl; (with_reducible repeat (first | refine blk_drewN ?_ _ | refine blk_drew ?_ | refine blk_alloc ?_ _)); refine blk_put (cs := #[.string t465, .int .i64 t466, .int .i64 t467, .string t468, .int .i64 t469, .bool x459005_1, .int .i64 x459006_1]) ?_ 5 _ rfl; (with_reducible repeat (first | refine blk_drewN ?_ _ | refine blk_drew ?_ | refine blk_alloc ?_ _)); refine blk_put (cs := #[.string t465, .int .i64 t466, .int .i64 t467, .string t468, .int .i64 x459004_1, .bool x459005_1, .int .i64 x459006_1]) ?_ 4 _ rfl; (with_reducible repeat (first | refine blk_drewN ?_ _ | refine blk_drew ?_ | refine blk_alloc ?_ _)); refine blk_put (cs := #[.string t465, .int .i64 t466, .int .i64 t467, .string x459003_1, .int .i64 x459004_1, .bool x459005_1, .int .i64 x459006_1]) ?_ 3 _ rfl; (with_reducible repeat (first | refine blk_drewN ?_ _ | refine blk_drew ?_ | refine blk_alloc ?_ _)); refine blk_put (cs := #[.string t465, .int .i64 t466, .int .i64 x459002_1, .string x459003_1, .int .i64 x459004_1, .bool x459005_1, .int .i64 x459006_1]) ?_ 2 _ rfl; (with_reducible repeat (first | refine blk_drewN ?_ _ | refine blk_drew ?_ | refine blk_alloc ?_ _)); refine blk_put (cs := #[.string t465, .int .i64 x459001_1, .int .i64 x459002_1, .string x459003_1, .int .i64 x459004_1, .bool x459005_1, .int .i64 x459006_1]) ?_ 1 _ rfl; (with_reducible repeat (first | refine blk_drewN ?_ _ | refine blk_drew ?_ | refine blk_alloc ?_ _)); refine blk_put (cs := #[.string x459000_1, .int .i64 x459001_1, .int .i64 x459002_1, .string x459003_1, .int .i64 x459004_1, .bool x459005_1, .int .i64 x459006_1]) ?_ 0 _ rfl; (with_reducible repeat (first | refine blk_drewN ?_ _ | refine blk_drew ?_ | refine blk_alloc ?_ _)); exact BK458.out⟩, ⟨q28_⟩, ⟨q32_⟩, ⟨q23_⟩⟩
     ·replace c17 := Bool.eq_false_iff.mpr c17
      subst c17
      replace H : ((spec_l1Rd_once.f s0_0 x1001_1 30).bind fun bt473 => (if bt473.1 = true then ((spec_l1Rd_off.f kj14 s0_0 bt473.2 0 31).bind fun bt475 => (some (x459000_1, x459001_1, bt475.1, x459003_1, x459004_1, x459005_1, x459006_1, bt475.2))) else (some (x459000_1, x459001_1, x459002_1, x459003_1, x459004_1, x459005_1, x459006_1, bt473.2)))) = some (r1, r2, r3, r4, r5, r6, r7, r8) := by rw [if_neg (show ¬ (false = true) by decide)] at H; exact H
      replace H := Option.bind_eq_some_iff.mp H
      obtain ⟨⟨t473, t474⟩, A320, H⟩ := H
      replace H : (if t473 = true then ((spec_l1Rd_off.f kj14 s0_0 t474 0 31).bind fun bt475 => (some (x459000_1, x459001_1, bt475.1, x459003_1, x459004_1, x459005_1, x459006_1, bt475.2))) else (some (x459000_1, x459001_1, x459002_1, x459003_1, x459004_1, x459005_1, x459006_1, t474))) = some (r1, r2, r3, r4, r5, r6, r7, r8) := H
      have A32 := Aside0.mk A320
      clear A320
      by_cases c33 : t473 = true
      ·subst c33
       replace H : ((spec_l1Rd_off.f kj14 s0_0 t474 0 31).bind fun bt475 => (some (x459000_1, x459001_1, bt475.1, x459003_1, x459004_1, x459005_1, x459006_1, bt475.2))) = some (r1, r2, r3, r4, r5, r6, r7, r8) := by rw [if_pos rfl] at H; exact H
       replace H := Option.bind_eq_some_iff.mp H
       obtain ⟨⟨t475, t476⟩, A340, H⟩ := H
       replace H : (some (x459000_1, x459001_1, t475, x459003_1, x459004_1, x459005_1, x459006_1, t476)) = some (r1, r2, r3, r4, r5, r6, r7, r8) := H
       have A34 := Aside0.mk A340
       clear A340
       simp only [Option.some.injEq, Prod.mk.injEq] at H
       obtain ⟨rfl, rfl, rfl, rfl, rfl, rfl, rfl, rfl⟩ := H
       go_wp2_with (first | ((with_reducible refine gate_callee (f := 56) rfl ?_); refine goesL_ (some 33) rfl rfl Try.func56 (by kernel_rfl) rfl #[.pointer (some ⟨g, 0, none⟩), .int .i64 30] rfl q74_ ?_; (with_reducible refine (spec_l1Rd_once.calls g s0_0 x1001_1 30 true t474 w0 _ ?side1 ?side2 A32.out).mono ?_); (case side1 => exact q130_); (case side2 => exact q127_); rintro e w35 ⟨rfl, hi, hb, hk⟩; refine ⟨_, rfl, ?_⟩; have n0_ := Aside0.mk (KeepBut.blk hk (g' := gb445) (o := .cells #[.string (⟨#[]⟩ : ByteArray), .int .i64 0, .int .i64 0, .string (⟨#[]⟩ : ByteArray), .int .i64 0, .bool false, .int .i64 0] 32 (0, 0)) q91_ NB445_0.out (by simp)); have n1_ := Aside0.mk (KeepBut.blk hk (g' := gb458) (o := .cells #[.string x459000_1, .int .i64 x459001_1, .int .i64 x459002_1, .string x459003_1, .int .i64 x459004_1, .bool x459005_1, .int .i64 x459006_1] 32 (0, 0)) q92_ NB458_0.out (by simp)); have n2_ := Aside0.mk (KeepBut.trans q32_ hk (.inl rfl)); have n3_ := Aside0.mk (hb); have n4_ := Aside0.mk (hi); clear BK445; clear BK458; clear HK; clear HB; clear HI0; have BK445 := n0_; have BK458 := n1_; have HK := n2_; have HB := n3_; have HI0 := n4_; clear n0_ n1_ n2_ n3_ n4_; (try clear hb); (try clear hk); (try clear hi)) | ((with_reducible refine gate_callee (f := 57) rfl ?_); refine goesL_ (some 35) rfl rfl Try.func57 (by kernel_rfl) rfl #[.pointer (some ⟨g, 0, none⟩), .int .i64 0, .int .i64 31] rfl q74_ ?_; (with_reducible refine (spec_l1Rd_off.calls kj14 g s0_0 t474 0 31 t475 t476 w0 _ ?side1 ?side2 A34.out).mono ?_); (case side1 => exact q130_); (case side2 => exact q127_); rintro e w36 ⟨rfl, hi, hb, hk⟩; refine ⟨_, rfl, ?_⟩; have n0_ := Aside0.mk (KeepBut.blk hk (g' := gb445) (o := .cells #[.string (⟨#[]⟩ : ByteArray), .int .i64 0, .int .i64 0, .string (⟨#[]⟩ : ByteArray), .int .i64 0, .bool false, .int .i64 0] 32 (0, 0)) q91_ NB445_0.out (by simp)); have n1_ := Aside0.mk (KeepBut.blk hk (g' := gb458) (o := .cells #[.string x459000_1, .int .i64 x459001_1, .int .i64 x459002_1, .string x459003_1, .int .i64 x459004_1, .bool x459005_1, .int .i64 x459006_1] 32 (0, 0)) q92_ NB458_0.out (by simp)); have n2_ := Aside0.mk (KeepBut.trans q32_ hk (.inl rfl)); have n3_ := Aside0.mk (hb); have n4_ := Aside0.mk (hi); clear BK445; clear BK458; clear HK; clear HB; clear HI0; have BK445 := n0_; have BK458 := n1_; have HK := n2_; have HB := n3_; have HI0 := n4_; clear n0_ n1_ n2_ n3_ n4_; (try clear hb); (try clear hk); (try clear hi); have hnb37 := NB458_445.out; have hnc37 := NB445_458.out; have hnb38 := NB458_0.out; have hnc38 := NB0_458.out; have hcz39_0 : w36.cell? ⟨gb458, 0, none⟩ = some (.string x459000_1) := (blk_cell BK458.out 0).trans rfl; have hcz39_1 : w36.cell? ⟨gb458, 1, none⟩ = some (.int .i64 x459001_1) := (blk_cell BK458.out 1).trans rfl; have hcz39_2 : w36.cell? ⟨gb458, 2, none⟩ = some (.int .i64 x459002_1) := (blk_cell BK458.out 2).trans rfl; have hcz39_3 : w36.cell? ⟨gb458, 3, none⟩ = some (.string x459003_1) := (blk_cell BK458.out 3).trans rfl; have hcz39_4 : w36.cell? ⟨gb458, 4, none⟩ = some (.int .i64 x459004_1) := (blk_cell BK458.out 4).trans rfl; have hcz39_5 : w36.cell? ⟨gb458, 5, none⟩ = some (.bool x459005_1) := (blk_cell BK458.out 5).trans rfl; have hcz39_6 : w36.cell? ⟨gb458, 6, none⟩ = some (.int .i64 x459006_1) := (blk_cell BK458.out 6).trans rfl; have hfz39_0 := blk_frozen BK458.out 0; have hfz39_1 := blk_frozen BK458.out 1; have hfz39_2 := blk_frozen BK458.out 2; have hfz39_3 := blk_frozen BK458.out 3; have hfz39_4 := blk_frozen BK458.out 4; have hfz39_5 := blk_frozen BK458.out 5; have hfz39_6 := blk_frozen BK458.out 6; have hnb40 := NB445_0.out; have hnc40 := NB0_445.out; have hcz41_0 : w36.cell? ⟨gb445, 0, none⟩ = some (.string (⟨#[]⟩ : ByteArray)) := (blk_cell BK445.out 0).trans rfl; have hcz41_1 : w36.cell? ⟨gb445, 1, none⟩ = some (.int .i64 0) := (blk_cell BK445.out 1).trans rfl; have hcz41_2 : w36.cell? ⟨gb445, 2, none⟩ = some (.int .i64 0) := (blk_cell BK445.out 2).trans rfl; have hcz41_3 : w36.cell? ⟨gb445, 3, none⟩ = some (.string (⟨#[]⟩ : ByteArray)) := (blk_cell BK445.out 3).trans rfl; have hcz41_4 : w36.cell? ⟨gb445, 4, none⟩ = some (.int .i64 0) := (blk_cell BK445.out 4).trans rfl; have hcz41_5 : w36.cell? ⟨gb445, 5, none⟩ = some (.bool false) := (blk_cell BK445.out 5).trans rfl; have hcz41_6 : w36.cell? ⟨gb445, 6, none⟩ = some (.int .i64 0) := (blk_cell BK445.out 6).trans rfl; have hfz41_0 := blk_frozen BK445.out 0; have hfz41_1 := blk_frozen BK445.out 1; have hfz41_2 := blk_frozen BK445.out 2; have hfz41_3 := blk_frozen BK445.out 3; have hfz41_4 := blk_frozen BK445.out 4; have hfz41_5 := blk_frozen BK445.out 5; have hfz41_6 := blk_frozen BK445.out 6))
       refine bodyPost_ret (results_cell_row rfl _ _ gb445 32 #[.string x459000_1, .int .i64 x459001_1, .int .i64 t475, .string x459003_1, .int .i64 x459004_1, .bool x459005_1, .int .i64 x459006_1] (0, 0) _ rfl (by (with_reducible repeat (first | refine blk_drewN ?_ _ | refine blk_drew ?_ | refine blk_alloc ?_ _)); refine blk_put (cs := #[.string x459000_1, .int .i64 x459001_1, .int .i64 t475, .string x459003_1, .int .i64 x459004_1, .bool x459005_1, .int .i64 0]) ?_ 6 _ rfl; (with_reducible repeat (first | refine blk_drewN ?_ _ | refine blk_drew ?_ | refine blk_alloc ?_ _)); refine blk_put (cs := #[.string x459000_1, .int .i64 x459001_1, .int .i64 t475, .string x459003_1, .int .i64 x459004_1, .bool false, .int .i64 0]) ?_ 5 _ rfl; (with_reducible repeat (first | refine blk_drewN ?_ _ | refine blk_drew ?_ | refine blk_alloc ?_ _)); refine blk_put (cs := #[.string x459000_1, .int .i64 x459001_1, .int .i64 t475, .string x459003_1, .int .i64 0, .bool false, .int .i64 0]) ?_ 4 _ rfl; (with_reducible repeat (first | refine blk_drewN ?_ _ | refine blk_drew ?_ | refine blk_alloc ?_ _)); refine blk_put (cs := #[.string x459000_1, .int .i64 x459001_1, .int .i64 t475, .string (⟨#[]⟩ : ByteArray), .int .i64 0, .bool false, .int .i64 0]) ?_ 3 _ rfl; (with_reducible repeat (first | refine blk_drewN ?_ _ | refine blk_drew ?_ | refine blk_alloc ?_ _)); refine blk_put (cs := #[.string x459000_1, .int .i64 x459001_1, .int .i64 0, .string (⟨#[]⟩ : ByteArray), .int .i64 0, .bool false, .int .i64 0]) ?_ 2 _ rfl; (with_reducible repeat (first | refine blk_drewN ?_ _ | refine blk_drew ?_ | refine blk_alloc ?_ _)); refine blk_put (cs := #[.string x459000_1, .int .i64 0, .int .i64 0, .string (⟨#[]⟩ : ByteArray), .int .i64 0, .bool false, .int .i64 0]) ?_ 1 _ rfl; (with_reducible repeat (first | refine blk_drewN ?_ _ | refine blk_drew ?_ | refine blk_alloc ?_ _)); refine blk_put (cs := #[.string (⟨#[]⟩ : ByteArray), .int .i64 0, .int .i64 0, .string (⟨#[]⟩ : ByteArray), .int .i64 0, .bool false, .int .i64 0]) ?_ 0 _ rfl; (with_reducible repeat (first | refine blk_drewN ?_ _ | refine blk_drew ?_ | refine blk_alloc ?_ _)); refine blk_far ?_ NB445_458.out _; (with_reducible repeat (first | refine blk_drewN ?_ _ | refine blk_drew ?_ | refine blk_alloc ?_ _)); exact BK445.out) Try.underlying32 rfl (by kernel_rfl)) rfl ?_
       exact ⟨q76_, q28_, q23_, q32_⟩
      ·replace c33 := Bool.eq_false_iff.mpr c33
       subst c33
       replace H : (some (x459000_1, x459001_1, x459002_1, x459003_1, x459004_1, x459005_1, x459006_1, t474)) = some (r1, r2, r3, r4, r5, r6, r7, r8) := by rw [if_neg (show ¬ (false = true) by decide)] at H; exact H
       simp only [Option.some.injEq, Prod.mk.injEq] at H
       obtain ⟨rfl, rfl, rfl, rfl, rfl, rfl, rfl, rfl⟩ := H
       go_wp2_with (first | ((with_reducible refine gate_callee (f := 56) rfl ?_); refine goesL_ (some 33) rfl rfl Try.func56 (by kernel_rfl) rfl #[.pointer (some ⟨g, 0, none⟩), .int .i64 30] rfl q74_ ?_; (with_reducible refine (spec_l1Rd_once.calls g s0_0 x1001_1 30 false t474 w0 _ ?side1 ?side2 A32.out).mono ?_); (case side1 => exact q130_); (case side2 => exact q127_); rintro e w42 ⟨rfl, hi, hb, hk⟩; refine ⟨_, rfl, ?_⟩; have n0_ := Aside0.mk (KeepBut.blk hk (g' := gb445) (o := .cells #[.string (⟨#[]⟩ : ByteArray), .int .i64 0, .int .i64 0, .string (⟨#[]⟩ : ByteArray), .int .i64 0, .bool false, .int .i64 0] 32 (0, 0)) q91_ NB445_0.out (by simp)); have n1_ := Aside0.mk (KeepBut.blk hk (g' := gb458) (o := .cells #[.string x459000_1, .int .i64 x459001_1, .int .i64 x459002_1, .string x459003_1, .int .i64 x459004_1, .bool x459005_1, .int .i64 x459006_1] 32 (0, 0)) q92_ NB458_0.out (by simp)); have n2_ := Aside0.mk (KeepBut.trans q32_ hk (.inl rfl)); have n3_ := Aside0.mk (hb); have n4_ := Aside0.mk (hi); clear BK445; clear BK458; clear HK; clear HB; clear HI0; have BK445 := n0_; have BK458 := n1_; have HK := n2_; have HB := n3_; have HI0 := n4_; clear n0_ n1_ n2_ n3_ n4_; (try clear hb); (try clear hk); (try clear hi); have hnb43 := NB458_445.out; have hnc43 := NB445_458.out; have hnb44 := NB458_0.out; have hnc44 := NB0_458.out; have hcz45_0 : w42.cell? ⟨gb458, 0, none⟩ = some (.string x459000_1) := (blk_cell BK458.out 0).trans rfl; have hcz45_1 : w42.cell? ⟨gb458, 1, none⟩ = some (.int .i64 x459001_1) := (blk_cell BK458.out 1).trans rfl; have hcz45_2 : w42.cell? ⟨gb458, 2, none⟩ = some (.int .i64 x459002_1) := (blk_cell BK458.out 2).trans rfl; have hcz45_3 : w42.cell? ⟨gb458, 3, none⟩ = some (.string x459003_1) := (blk_cell BK458.out 3).trans rfl; have hcz45_4 : w42.cell? ⟨gb458, 4, none⟩ = some (.int .i64 x459004_1) := (blk_cell BK458.out 4).trans rfl; have hcz45_5 : w42.cell? ⟨gb458, 5, none⟩ = some (.bool x459005_1) := (blk_cell BK458.out 5).trans rfl; have hcz45_6 : w42.cell? ⟨gb458, 6, none⟩ = some (.int .i64 x459006_1) := (blk_cell BK458.out 6).trans rfl; have hfz45_0 := blk_frozen BK458.out 0; have hfz45_1 := blk_frozen BK458.out 1; have hfz45_2 := blk_frozen BK458.out 2; have hfz45_3 := blk_frozen BK458.out 3; have hfz45_4 := blk_frozen BK458.out 4; have hfz45_5 := blk_frozen BK458.out 5; have hfz45_6 := blk_frozen BK458.out 6; have hnb46 := NB445_0.out; have hnc46 := NB0_445.out; have hcz47_0 : w42.cell? ⟨gb445, 0, none⟩ = some (.string (⟨#[]⟩ : ByteArray)) := (blk_cell BK445.out 0).trans rfl; have hcz47_1 : w42.cell? ⟨gb445, 1, none⟩ = some (.int .i64 0) := (blk_cell BK445.out 1).trans rfl; have hcz47_2 : w42.cell? ⟨gb445, 2, none⟩ = some (.int .i64 0) := (blk_cell BK445.out 2).trans rfl; have hcz47_3 : w42.cell? ⟨gb445, 3, none⟩ = some (.string (⟨#[]⟩ : ByteArray)) := (blk_cell BK445.out 3).trans rfl; have hcz47_4 : w42.cell? ⟨gb445, 4, none⟩ = some (.int .i64 0) := (blk_cell BK445.out 4).trans rfl; have hcz47_5 : w42.cell? ⟨gb445, 5, none⟩ = some (.bool false) := (blk_cell BK445.out 5).trans rfl; have hcz47_6 : w42.cell? ⟨gb445, 6, none⟩ = some (.int .i64 0) := (blk_cell BK445.out 6).trans rfl; have hfz47_0 := blk_frozen BK445.out 0; have hfz47_1 := blk_frozen BK445.out 1; have hfz47_2 := blk_frozen BK445.out 2; have hfz47_3 := blk_frozen BK445.out 3; have hfz47_4 := blk_frozen BK445.out 4; have hfz47_5 := blk_frozen BK445.out 5; have hfz47_6 := blk_frozen BK445.out 6))
       refine bodyPost_ret (results_cell_row rfl _ _ gb445 32 #[.string x459000_1, .int .i64 x459001_1, .int .i64 x459002_1, .string x459003_1, .int .i64 x459004_1, .bool x459005_1, .int .i64 x459006_1] (0, 0) _ rfl (by (with_reducible repeat (first | refine blk_drewN ?_ _ | refine blk_drew ?_ | refine blk_alloc ?_ _)); refine blk_put (cs := #[.string x459000_1, .int .i64 x459001_1, .int .i64 x459002_1, .string x459003_1, .int .i64 x459004_1, .bool x459005_1, .int .i64 0]) ?_ 6 _ rfl; (with_reducible repeat (first | refine blk_drewN ?_ _ | refine blk_drew ?_ | refine blk_alloc ?_ _)); refine blk_put (cs := #[.string x459000_1, .int .i64 x459001_1, .int .i64 x459002_1, .string x459003_1, .int .i64 x459004_1, .bool false, .int .i64 0]) ?_ 5 _ rfl; (with_reducible repeat (first | refine blk_drewN ?_ _ | refine blk_drew ?_ | refine blk_alloc ?_ _)); refine blk_put (cs := #[.string x459000_1, .int .i64 x459001_1, .int .i64 x459002_1, .string x459003_1, .int .i64 0, .bool false, .int .i64 0]) ?_ 4 _ rfl; (with_reducible repeat (first | refine blk_drewN ?_ _ | refine blk_drew ?_ | refine blk_alloc ?_ _)); refine blk_put (cs := #[.string x459000_1, .int .i64 x459001_1, .int .i64 x459002_1, .string (⟨#[]⟩ : ByteArray), .int .i64 0, .bool false, .int .i64 0]) ?_ 3 _ rfl; (with_reducible repeat (first | refine blk_drewN ?_ _ | refine blk_drew ?_ | refine blk_alloc ?_ _)); refine blk_put (cs := #[.string x459000_1, .int .i64 x459001_1, .int .i64 0, .string (⟨#[]⟩ : ByteArray), .int .i64 0, .bool false, .int .i64 0]) ?_ 2 _ rfl; (with_reducible repeat (first | refine blk_drewN ?_ _ | refine blk_drew ?_ | refine blk_alloc ?_ _)); refine blk_put (cs := #[.string x459000_1, .int .i64 0, .int .i64 0, .string (⟨#[]⟩ : ByteArray), .int .i64 0, .bool false, .int .i64 0]) ?_ 1 _ rfl; (with_reducible repeat (first | refine blk_drewN ?_ _ | refine blk_drew ?_ | refine blk_alloc ?_ _)); refine blk_put (cs := #[.string (⟨#[]⟩ : ByteArray), .int .i64 0, .int .i64 0, .string (⟨#[]⟩ : ByteArray), .int .i64 0, .bool false, .int .i64 0]) ?_ 0 _ rfl; (with_reducible repeat (first | refine blk_drewN ?_ _ | refine blk_drew ?_ | refine blk_alloc ?_ _)); exact BK445.out) Try.underlying32 rfl (by kernel_rfl)) rfl ?_
       exact ⟨q76_, q28_, q23_, q32_⟩
def spec_DrawCartRead.f (k : Nat) (l0 : List Int) : Option (ByteArray × Int × Int × ByteArray × Int × Bool × Int × Int) := (spec_l1Open.f l0).bind fun bt478 => ((spec_l1Rd_cart.f k bt478.1 bt478.2).bind fun bt481 => ((spec_l1Rd_addr.f k bt478.1 bt481.2.2.2.2.2.2.2).bind fun bt490 => (some (bt481.1, bt481.2.1, bt481.2.2.1, bt481.2.2.2.1, bt481.2.2.2.2.1, bt481.2.2.2.2.2.1, bt481.2.2.2.2.2.2.1, bt490.1))))
theorem spec_DrawCartRead.mono : ∀ a0 k, LeO (spec_DrawCartRead.f k a0) (spec_DrawCartRead.f (k + 1) a0) := by
 intro a0 k
 unfold spec_DrawCartRead.f
 repeat' first
   | (with_reducible first | exact spec_l1Rd_addr.mono _ _ _ | exact spec_l1Rd_cart.mono _ _ _ | exact LeO.refl _ | exact LeO.none _ | refine LeO.ite ?_ ?_ | refine LeO.bind ?_ (fun _ => ?_))
   | exact spec_l1Rd_addr.mono _ _ _
   | exact spec_l1Rd_cart.mono _ _ _
   | exact LeO.none _
   | refine LeO.ite ?_ ?_
   | refine LeO.bind ?_ (fun _ => ?_)
theorem spec_DrawCartRead.calls (k : Nat) (A0 : Option Addr) (c0 : Nat) (l0 : List Int) (r1 : ByteArray) (r2 : Int) (r3 : Int) (r4 : ByteArray) (r5 : Int) (r6 : Bool) (r7 : Int) (r8 : Int) (w : World) (hr0 : Kd.C (Kd.int .u8) w A0 l0.length l0) (hc0 : l0.length ≤ c0) (h : spec_DrawCartRead.f k l0 = some (r1, r2, r3, r4, r5, r6, r7, r8)) :
  Calls Try.prog 21 #[.slice A0 l0.length c0] w fun e w' => e = .returned (.tuple #[.agg #[.string r1, .int .i64 r2, .int .i64 r3, .string r4, .int .i64 r5, .bool r6, .int .i64 r7], .int .i64 r8]) ∧ Below w.heap.size w w' := by
 have hu32 := Try.underlying32
 have HR0 := Aside0.mk hr0
 have HC0 := Aside0.mk hc0
 clear hr0 hc0
 have HB := Aside0.mk (Below.refl w.heap.size w)
 have H : ((spec_l1Open.f l0).bind fun bt478 => ((spec_l1Rd_cart.f k bt478.1 bt478.2).bind fun bt481 => ((spec_l1Rd_addr.f k bt478.1 bt481.2.2.2.2.2.2.2).bind fun bt490 => (some (bt481.1, bt481.2.1, bt481.2.2.1, bt481.2.2.2.1, bt481.2.2.2.2.1, bt481.2.2.2.2.2.1, bt481.2.2.2.2.2.2.1, bt490.1))))) = some (r1, r2, r3, r4, r5, r6, r7, r8) := h
 clear h
 replace H := Option.bind_eq_some_iff.mp H
 obtain ⟨⟨t478, t479⟩, A20, H⟩ := H
 replace H : ((spec_l1Rd_cart.f k t478 t479).bind fun bt481 => ((spec_l1Rd_addr.f k t478 bt481.2.2.2.2.2.2.2).bind fun bt490 => (some (bt481.1, bt481.2.1, bt481.2.2.1, bt481.2.2.2.1, bt481.2.2.2.2.1, bt481.2.2.2.2.2.1, bt481.2.2.2.2.2.2.1, bt490.1)))) = some (r1, r2, r3, r4, r5, r6, r7, r8) := H
 have A2 := Aside0.mk A20
 clear A20
 replace H := Option.bind_eq_some_iff.mp H
 obtain ⟨⟨t481, t482, t483, t484, t485, t486, t487, t488⟩, A30, H⟩ := H
 replace H : ((spec_l1Rd_addr.f k t478 t488).bind fun bt490 => (some (t481, t482, t483, t484, t485, t486, t487, bt490.1))) = some (r1, r2, r3, r4, r5, r6, r7, r8) := H
 have A3 := Aside0.mk A30
 clear A30
 replace H := Option.bind_eq_some_iff.mp H
 obtain ⟨⟨t490, t491⟩, A40, H⟩ := H
 replace H : (some (t481, t482, t483, t484, t485, t486, t487, t490)) = some (r1, r2, r3, r4, r5, r6, r7, r8) := H
 have A4 := Aside0.mk A40
 clear A40
 simp only [Option.some.injEq, Prod.mk.injEq] at H
 obtain ⟨rfl, rfl, rfl, rfl, rfl, rfl, rfl, rfl⟩ := H
 go_enter Try.func21, Try.ntmps21
 try go_wp2_with (first | ((with_reducible refine gate_dst (N := 2) rfl ?_); refine box_event ?hg (N := 2) ?hd (cs := #[.string (⟨#[]⟩ : ByteArray), .int .i64 0, .int .i64 0, .string (⟨#[]⟩ : ByteArray), .int .i64 0, .bool false, .int .i64 0]) (t := 32) ?hr ?_; (case hd => rfl); (case hg => rfl); (case hr => exact q138_); intro gb477 hg w5 hbox hb; have n0_ := Aside0.mk (below_step q75_ hb); have n1_ := Aside0.mk (hbox); have n2_ := Aside0.mk ((q52_ : w.heap.size ≤ gb477)); have n3_ := Aside0.mk ((q52_ : w.heap.size ≤ gb477)); clear HB; have HB := n0_; have BK477 := n1_; have GW477 := n2_; have GE477 := n3_; clear n0_ n1_ n2_ n3_; clear hb hbox hg) | ((with_reducible refine gate_callee (f := 36) rfl ?_); refine goesL_ (some 7) rfl rfl Try.func36 (by kernel_rfl) rfl #[.slice A0 l0.length c0] rfl q74_ ?_; (with_reducible refine (spec_l1Open.calls _ _ l0 t478 t479 w _ ?side1 ?side2 ?side3 A2.out).mono ?_); (case side1 => repeat (first | (with_reducible first | exact HB.out | apply below_alloc | apply pw_below_drewN | apply below_drew1 | refine below_set ?_ GE477.out) | exact HB.out)); (case side2 => exact HR0.out); (case side3 => exact HC0.out); rintro e w6 ⟨g480, rfl, hi, hb, hb2⟩; refine ⟨_, rfl, ?_⟩; have n0_ := Aside0.mk (blk_below (g := gb477) (o := .cells #[.string (⟨#[]⟩ : ByteArray), .int .i64 0, .int .i64 0, .string (⟨#[]⟩ : ByteArray), .int .i64 0, .bool false, .int .i64 0] 32 (0, 0)) q93_ hb2); have n1_ := Aside0.mk (hb); have n2_ := Aside0.mk (hi); have n3_ := Aside0.mk (IsS78.ne_blk hi (blk_below (g := gb477) (o := .cells #[.string (⟨#[]⟩ : ByteArray), .int .i64 0, .int .i64 0, .string (⟨#[]⟩ : ByteArray), .int .i64 0, .bool false, .int .i64 0] 32 (0, 0)) q93_ hb2) (by decide)); have n4_ := Aside0.mk (Ne.symm (IsS78.ne_blk hi (blk_below (g := gb477) (o := .cells #[.string (⟨#[]⟩ : ByteArray), .int .i64 0, .int .i64 0, .string (⟨#[]⟩ : ByteArray), .int .i64 0, .bool false, .int .i64 0] 32 (0, 0)) q93_ hb2) (by decide))); clear BK477; clear HB; have BK477 := n0_; have HB := n1_; have HI480 := n2_; have NB480_477 := n3_; have NB477_480 := n4_; clear n0_ n1_ n2_ n3_ n4_; (try clear hb); (try clear hb2); (try clear hi)) | ((with_reducible refine gate_callee (f := 54) rfl ?_); refine goesL_ (some 9) rfl rfl Try.func54 (by kernel_rfl) rfl #[.pointer (some ⟨g480, 0, none⟩)] rfl q74_ ?_; (with_reducible refine (spec_l1Rd_cart.calls k g480 t478 t479 t481 t482 t483 t484 t485 t486 t487 t488 w _ ?side1 ?side2 A3.out).mono ?_); (case side1 => repeat (first | (with_reducible first | exact HI480.out | apply IsS78.alloc | apply IsS78.drewN | apply IsS78.drew | apply IsS78.set_1 | refine IsS78.far ?_ NB480_477.out _) | exact HI480.out)); (case side2 => repeat (first | (with_reducible first | exact HB.out | apply below_alloc | apply pw_below_drewN | apply below_drew1 | refine below_set ?_ (IsS78.ge HI480.out) | refine below_set ?_ GE477.out) | exact HB.out)); rintro e w7 ⟨rfl, hi, hb, hk⟩; refine ⟨_, rfl, ?_⟩; have n0_ := Aside0.mk (KeepBut.blk hk (g' := gb477) (o := .cells #[.string (⟨#[]⟩ : ByteArray), .int .i64 0, .int .i64 0, .string (⟨#[]⟩ : ByteArray), .int .i64 0, .bool false, .int .i64 0] 32 (0, 0)) q93_ NB477_480.out (by simp)); have n1_ := Aside0.mk (hb); have n2_ := Aside0.mk (hi); clear BK477; clear HB; clear HI480; have BK477 := n0_; have HB := n1_; have HI480 := n2_; clear n0_ n1_ n2_; (try clear hb); (try clear hk); (try clear hi)) | ((with_reducible refine gate_dst (N := 5) rfl ?_); refine box_event ?hg (N := 5) ?hd (cs := #[.string (⟨#[]⟩ : ByteArray), .int .i64 0, .int .i64 0, .string (⟨#[]⟩ : ByteArray), .int .i64 0, .bool false, .int .i64 0]) (t := 32) ?hr ?_; (case hd => rfl); (case hg => rfl); (case hr => exact q138_); intro gb489 hg w8 hbox hb; have n0_ := Aside0.mk (blk_below (g := gb477) (o := .cells #[.string (⟨#[]⟩ : ByteArray), .int .i64 0, .int .i64 0, .string (⟨#[]⟩ : ByteArray), .int .i64 0, .bool false, .int .i64 0] 32 (0, 0)) q93_ hb); have n1_ := Aside0.mk (IsS78.below (by repeat (first | (with_reducible first | exact HI480.out | apply IsS78.alloc | apply IsS78.drewN | apply IsS78.drew | apply IsS78.set_1 | refine IsS78.far ?_ NB480_477.out _) | exact HI480.out)) hb); have n2_ := Aside0.mk (below_step (by repeat (first | (with_reducible first | exact HB.out | apply below_alloc | apply pw_below_drewN | apply below_drew1 | refine below_set ?_ (IsS78.ge HI480.out) | refine below_set ?_ GE477.out) | exact HB.out)) hb); have n3_ := Aside0.mk (hbox); have n4_ := Aside0.mk ((q19_ : w.heap.size ≤ gb489)); have n5_ := Aside0.mk ((q19_ : w.heap.size ≤ gb489)); have n6_ := Aside0.mk ((by rw [hg]; exact Nat.ne_of_lt (blk_lt (g := gb477) (o := .cells #[.string (⟨#[]⟩ : ByteArray), .int .i64 0, .int .i64 0, .string (⟨#[]⟩ : ByteArray), .int .i64 0, .bool false, .int .i64 0] 32 (0, 0)) q93_) : gb477 ≠ gb489)); have n7_ := Aside0.mk ((by rw [hg]; exact Nat.ne_of_gt (blk_lt (g := gb477) (o := .cells #[.string (⟨#[]⟩ : ByteArray), .int .i64 0, .int .i64 0, .string (⟨#[]⟩ : ByteArray), .int .i64 0, .bool false, .int .i64 0] 32 (0, 0)) q93_) : gb489 ≠ gb477)); have n8_ := Aside0.mk ((by rw [hg]; exact Nat.ne_of_lt (IsS78.lt (show IsS78 w _ g480 t478 t488 from by repeat (first | (with_reducible first | exact HI480.out | apply IsS78.alloc | apply IsS78.drewN | apply IsS78.drew | apply IsS78.set_1 | refine IsS78.far ?_ NB480_477.out _) | exact HI480.out))) : g480 ≠ gb489)); have n9_ := Aside0.mk ((by rw [hg]; exact Nat.ne_of_gt (IsS78.lt (show IsS78 w _ g480 t478 t488 from by repeat (first | (with_reducible first | exact HI480.out | apply IsS78.alloc | apply IsS78.drewN | apply IsS78.drew | apply IsS78.set_1 | refine IsS78.far ?_ NB480_477.out _) | exact HI480.out))) : gb489 ≠ g480)); clear BK477; clear HI480; clear HB; have BK477 := n0_; have HI480 := n1_; have HB := n2_; have BK489 := n3_; have GW489 := n4_; have GE489 := n5_; have NB477_489 := n6_; have NB489_477 := n7_; have NB480_489 := n8_; have NB489_480 := n9_; clear n0_ n1_ n2_ n3_ n4_ n5_ n6_ n7_ n8_ n9_; clear hb hbox hg; have hnb9 := NB489_477.out; have hnc9 := NB477_489.out; have hnb10 := NB489_480.out; have hnc10 := NB480_489.out; have hcz11_0 : w8.cell? ⟨gb489, 0, none⟩ = some (.string (⟨#[]⟩ : ByteArray)) := (blk_cell BK489.out 0).trans rfl; have hcz11_1 : w8.cell? ⟨gb489, 1, none⟩ = some (.int .i64 0) := (blk_cell BK489.out 1).trans rfl; have hcz11_2 : w8.cell? ⟨gb489, 2, none⟩ = some (.int .i64 0) := (blk_cell BK489.out 2).trans rfl; have hcz11_3 : w8.cell? ⟨gb489, 3, none⟩ = some (.string (⟨#[]⟩ : ByteArray)) := (blk_cell BK489.out 3).trans rfl; have hcz11_4 : w8.cell? ⟨gb489, 4, none⟩ = some (.int .i64 0) := (blk_cell BK489.out 4).trans rfl; have hcz11_5 : w8.cell? ⟨gb489, 5, none⟩ = some (.bool false) := (blk_cell BK489.out 5).trans rfl; have hcz11_6 : w8.cell? ⟨gb489, 6, none⟩ = some (.int .i64 0) := (blk_cell BK489.out 6).trans rfl; have hfz11_0 := blk_frozen BK489.out 0; have hfz11_1 := blk_frozen BK489.out 1; have hfz11_2 := blk_frozen BK489.out 2; have hfz11_3 := blk_frozen BK489.out 3; have hfz11_4 := blk_frozen BK489.out 4; have hfz11_5 := blk_frozen BK489.out 5; have hfz11_6 := blk_frozen BK489.out 6))
 have n0_ : Aside0 ((((((((w8.setCell ⟨gb489, 0, none⟩ (.string t481)).setCell ⟨gb489, 1, none⟩ (.int .i64 t482)).setCell ⟨gb489, 2, none⟩ (.int .i64 t483)).setCell ⟨gb489, 3, none⟩ (.string t484)).setCell ⟨gb489, 4, none⟩ (.int .i64 t485)).setCell ⟨gb489, 5, none⟩ (.bool t486)).setCell ⟨gb489, 6, none⟩ (.int .i64 t487)).heap[gb477]? = some (.cells #[.string (⟨#[]⟩ : ByteArray), .int .i64 0, .int .i64 0, .string (⟨#[]⟩ : ByteArray), .int .i64 0, .bool false, .int .i64 0] 32 (0, 0))) := ⟨by (with_reducible repeat (first | refine blk_drewN ?_ _ | refine blk_drew ?_ | refine blk_alloc ?_ _)); refine blk_far ?_ NB477_489.out _; (with_reducible repeat (first | refine blk_drewN ?_ _ | refine blk_drew ?_ | refine blk_alloc ?_ _)); refine blk_far ?_ NB477_489.out _; (with_reducible repeat (first | refine blk_drewN ?_ _ | refine blk_drew ?_ | refine blk_alloc ?_ _)); refine blk_far ?_ NB477_489.out _; (with_reducible repeat (first | refine blk_drewN ?_ _ | refine blk_drew ?_ | refine blk_alloc ?_ _)); refine blk_far ?_ NB477_489.out _; (with_reducible repeat (first | refine blk_drewN ?_ _ | refine blk_drew ?_ | refine blk_alloc ?_ _)); refine blk_far ?_ NB477_489.out _; (with_reducible repeat (first | refine blk_drewN ?_ _ | refine blk_drew ?_ | refine blk_alloc ?_ _)); refine blk_far ?_ NB477_489.out _; (with_reducible repeat (first | refine blk_drewN ?_ _ | refine blk_drew ?_ | refine blk_alloc ?_ _)); refine blk_far ?_ NB477_489.out _; (with_reducible repeat (first | refine blk_drewN ?_ _ | refine blk_drew ?_ | refine blk_alloc ?_ _)); exact BK477.out⟩
 have n1_ : Aside0 ((((((((w8.setCell ⟨gb489, 0, none⟩ (.string t481)).setCell ⟨gb489, 1, none⟩ (.int .i64 t482)).setCell ⟨gb489, 2, none⟩ (.int .i64 t483)).setCell ⟨gb489, 3, none⟩ (.string t484)).setCell ⟨gb489, 4, none⟩ (.int .i64 t485)).setCell ⟨gb489, 5, none⟩ (.bool t486)).setCell ⟨gb489, 6, none⟩ (.int .i64 t487)).heap[gb489]? = some (.cells #[.string t481, .int .i64 t482, .int .i64 t483, .string t484, .int .i64 t485, .bool t486, .int .i64 t487] 32 (0, 0))) := ⟨by (with_reducible repeat (first | refine blk_drewN ?_ _ | refine blk_drew ?_ | refine blk_alloc ?_ _)); refine blk_put (cs := #[.string t481, .int .i64 t482, .int .i64 t483, .string t484, .int .i64 t485, .bool t486, .int .i64 0]) ?_ 6 _ rfl; (with_reducible repeat (first | refine blk_drewN ?_ _ | refine blk_drew ?_ | refine blk_alloc ?_ _)); refine blk_put (cs := #[.string t481, .int .i64 t482, .int .i64 t483, .string t484, .int .i64 t485, .bool false, .int .i64 0]) ?_ 5 _ rfl; (with_reducible repeat (first | refine blk_drewN ?_ _ | refine blk_drew ?_ | refine blk_alloc ?_ _)); refine blk_put (cs := #[.string t481, .int .i64 t482, .int .i64 t483, .string t484, .int .i64 0, .bool false, .int .i64 0]) ?_ 4 _ rfl; (with_reducible repeat (first | refine blk_drewN ?_ _ | refine blk_drew ?_ | refine blk_alloc ?_ _)); refine blk_put (cs := #[.string t481, .int .i64 t482, .int .i64 t483, .string (⟨#[]⟩ : ByteArray), .int .i64 0, .bool false, .int .i64 0]) ?_ 3 _ rfl; (with_reducible repeat (first | refine blk_drewN ?_ _ | refine blk_drew ?_ | refine blk_alloc ?_ _)); refine blk_put (cs := #[.string t481, .int .i64 t482, .int .i64 0, .string (⟨#[]⟩ : ByteArray), .int .i64 0, .bool false, .int .i64 0]) ?_ 2 _ rfl; (with_reducible repeat (first | refine blk_drewN ?_ _ | refine blk_drew ?_ | refine blk_alloc ?_ _)); refine blk_put (cs := #[.string t481, .int .i64 0, .int .i64 0, .string (⟨#[]⟩ : ByteArray), .int .i64 0, .bool false, .int .i64 0]) ?_ 1 _ rfl; (with_reducible repeat (first | refine blk_drewN ?_ _ | refine blk_drew ?_ | refine blk_alloc ?_ _)); refine blk_put (cs := #[.string (⟨#[]⟩ : ByteArray), .int .i64 0, .int .i64 0, .string (⟨#[]⟩ : ByteArray), .int .i64 0, .bool false, .int .i64 0]) ?_ 0 _ rfl; (with_reducible repeat (first | refine blk_drewN ?_ _ | refine blk_drew ?_ | refine blk_alloc ?_ _)); exact BK489.out⟩
 have n2_ : Aside0 (IsS78 w (((((((w8.setCell ⟨gb489, 0, none⟩ (.string t481)).setCell ⟨gb489, 1, none⟩ (.int .i64 t482)).setCell ⟨gb489, 2, none⟩ (.int .i64 t483)).setCell ⟨gb489, 3, none⟩ (.string t484)).setCell ⟨gb489, 4, none⟩ (.int .i64 t485)).setCell ⟨gb489, 5, none⟩ (.bool t486)).setCell ⟨gb489, 6, none⟩ (.int .i64 t487)) g480 t478 t488) := ⟨by repeat (first | (with_reducible first | exact HI480.out | apply IsS78.alloc | apply IsS78.drewN | apply IsS78.drew | apply IsS78.set_1 | refine IsS78.far ?_ NB480_477.out _ | refine IsS78.far ?_ NB480_489.out _) | exact HI480.out)⟩
 have n3_ : Aside0 (Below w.heap.size w (((((((w8.setCell ⟨gb489, 0, none⟩ (.string t481)).setCell ⟨gb489, 1, none⟩ (.int .i64 t482)).setCell ⟨gb489, 2, none⟩ (.int .i64 t483)).setCell ⟨gb489, 3, none⟩ (.string t484)).setCell ⟨gb489, 4, none⟩ (.int .i64 t485)).setCell ⟨gb489, 5, none⟩ (.bool t486)).setCell ⟨gb489, 6, none⟩ (.int .i64 t487))) := ⟨q20_⟩
 (try clear BK477)
 (try clear BK489)
 (try clear HI480)
 (try clear HB)
 generalize (((((((w8.setCell ⟨gb489, 0, none⟩ (.string t481)).setCell ⟨gb489, 1, none⟩ (.int .i64 t482)).setCell ⟨gb489, 2, none⟩ (.int .i64 t483)).setCell ⟨gb489, 3, none⟩ (.string t484)).setCell ⟨gb489, 4, none⟩ (.int .i64 t485)).setCell ⟨gb489, 5, none⟩ (.bool t486)).setCell ⟨gb489, 6, none⟩ (.int .i64 t487)) = w12 at n0_ n1_ n2_ n3_ ⊢
 have BK477 := n0_
 have BK489 := n1_
 have HI480 := n2_
 have HB := n3_
 clear n0_ n1_ n2_ n3_
 have n0_ := Aside0.mk (blk_drew BK477.out)
 have n1_ := Aside0.mk (blk_drew BK489.out)
 have n2_ := Aside0.mk (IsS78.drew HI480.out)
 have n3_ := Aside0.mk (below_drew1 HB.out)
 clear BK477
 clear BK489
 clear HI480
 clear HB
 have BK477 := n0_
 have BK489 := n1_
 have HI480 := n2_
 have HB := n3_
 clear n0_ n1_ n2_ n3_
 refine start_ (n := 5) (S := fun w' => w'.cell? ⟨gb489, 0, none⟩ = some (.string t481) ∧ w'.cell? ⟨gb489, 1, none⟩ = some (.int .i64 t482) ∧ w'.cell? ⟨gb489, 2, none⟩ = some (.int .i64 t483) ∧ w'.cell? ⟨gb489, 3, none⟩ = some (.string t484) ∧ w'.cell? ⟨gb489, 4, none⟩ = some (.int .i64 t485) ∧ w'.cell? ⟨gb489, 5, none⟩ = some (.bool t486) ∧ w'.cell? ⟨gb489, 6, none⟩ = some (.int .i64 t487)) (ds := []) #[false, false, false, false, false] (by kernel_rfl) rfl rfl ⟨(blk_cell BK489.out 0).trans rfl, (blk_cell BK489.out 1).trans rfl, (blk_cell BK489.out 2).trans rfl, (blk_cell BK489.out 3).trans rfl, (blk_cell BK489.out 4).trans rfl, (blk_cell BK489.out 5).trans rfl, (blk_cell BK489.out 6).trans rfl⟩ (fun hHeld => ?_)
 generalize w12.drew = w13 at BK477 BK489 HI480 HB hHeld ⊢
 refine pure_ (i := 1) (N := some 11) (v := ?_) (a' := ?_) #[false, true, false, false, false] rfl rfl (by kernel_rfl) (fun _ _ _ h => h) (Or.inl ⟨by rfl, ?_⟩) ?_ ?_
 rotate_left
 ·intro w'
  go_simp
  with_reducible rfl
 rotate_left
 ·simp only [Act.put, List.setIfInBounds_toArray, List.set_cons_zero, List.set_cons_succ, i64_w, i32_w]
  rfl
 refine take_ (i := 0) (N := some 10) (v := ?_) (a' := ?_) #[true, true, false, false, false] rfl rfl (by kernel_rfl) (fun _ _ _ h => h) (Or.inl ⟨by rfl, ?_⟩) hHeld ?_ ?_
 rotate_left
 ·rintro w' ⟨s0, s1, s2, s3, s4, s5, s6⟩
  go_simp
  with_reducible rfl
 rotate_left
 ·simp only [Act.put, List.setIfInBounds_toArray, List.set_cons_zero, List.set_cons_succ, i64_w, i32_w]
  rfl
 refine one_ (i := 2) (N := some 12) #[true, true, true, false, false] rfl rfl (by kernel_rfl) (by decide) (fun K hK => ?_)
 refine goes_ Try.func55 (by kernel_rfl) rfl #[.pointer (some ⟨g480, 0, none⟩)] (by rfl) rfl rfl q74_ ?_
 with_reducible refine (spec_l1Rd_addr.calls k g480 t478 t488 t490 t491 w _ ?side1 ?side2 A4.out).mono ?_
 (case side1 => repeat (first | (with_reducible first | exact HI480.out | apply IsS78.alloc | apply IsS78.drewN | apply IsS78.drew | apply IsS78.set_1 | refine IsS78.far ?_ NB480_477.out _ | refine IsS78.far ?_ NB480_489.out _) | exact HI480.out))
 (case side2 => repeat (first | (with_reducible first | exact HB.out | apply below_alloc | apply pw_below_drewN | apply below_drew1 | refine below_set ?_ (IsS78.ge HI480.out) | refine below_set ?_ GE477.out | refine below_set ?_ GE489.out) | exact HB.out))
 rintro e w14 ⟨rfl, hi, hb, hk⟩
 refine ⟨_, rfl, ?_⟩
 have n0_ := Aside0.mk (KeepBut.blk hk (g' := gb477) (o := .cells #[.string (⟨#[]⟩ : ByteArray), .int .i64 0, .int .i64 0, .string (⟨#[]⟩ : ByteArray), .int .i64 0, .bool false, .int .i64 0] 32 (0, 0)) q93_ NB477_480.out (by simp))
 have n1_ := Aside0.mk (KeepBut.blk hk (g' := gb489) (o := .cells #[.string t481, .int .i64 t482, .int .i64 t483, .string t484, .int .i64 t485, .bool t486, .int .i64 t487] 32 (0, 0)) (by (with_reducible repeat (first | refine blk_drewN ?_ _ | refine blk_drew ?_ | refine blk_alloc ?_ _)); exact BK489.out) NB489_480.out (by simp))
 have n2_ := Aside0.mk (hb)
 have n3_ := Aside0.mk (hi)
 clear BK477
 clear BK489
 clear HB
 clear HI480
 have BK477 := n0_
 have BK489 := n1_
 have HB := n2_
 have HI480 := n3_
 clear n0_ n1_ n2_ n3_
 (try clear hb)
 (try clear hb2)
 (try clear hk)
 (try clear hi)
 refine hK.out _ _ ⟨(blk_cell BK489.out 0).trans rfl, (blk_cell BK489.out 1).trans rfl, (blk_cell BK489.out 2).trans rfl, (blk_cell BK489.out 3).trans rfl, (blk_cell BK489.out 4).trans rfl, (blk_cell BK489.out 5).trans rfl, (blk_cell BK489.out 6).trans rfl⟩ (fun hHeld => ?_)
 clear hK K
 refine norm_ (a' := ?_) ?_ ?_
 rotate_left
 ·show Act.put _ (some 12) _ = _
  simp only [Act.put, List.setIfInBounds_toArray, List.set_cons_zero, List.set_cons_succ, i64_w, i32_w]
  rfl
 refine one_ (i := 3) (N := none) #[true, true, true, true, false] rfl rfl (by kernel_rfl) (by decide) (fun K hK => ?_)
 have hs15 : w14.cell? ⟨gb477, 0, none⟩ = some (.string (⟨#[]⟩ : ByteArray)) := bz_ BK477 0
 have hfs15 := blk_frozen BK477.out 0
 have hns15_1 := NB489_477.out
 have hms15_1 := NB477_489.out
 have hs16 : w14.cell? ⟨gb477, 1, none⟩ = some (.int .i64 0) := bz_ BK477 1
 have hfs16 := blk_frozen BK477.out 1
 have hns16_1 := NB489_477.out
 have hms16_1 := NB477_489.out
 have hs17 : w14.cell? ⟨gb477, 2, none⟩ = some (.int .i64 0) := bz_ BK477 2
 have hfs17 := blk_frozen BK477.out 2
 have hns17_1 := NB489_477.out
 have hms17_1 := NB477_489.out
 have hs18 : w14.cell? ⟨gb477, 3, none⟩ = some (.string (⟨#[]⟩ : ByteArray)) := bz_ BK477 3
 have hfs18 := blk_frozen BK477.out 3
 have hns18_1 := NB489_477.out
 have hms18_1 := NB477_489.out
 have hs19 : w14.cell? ⟨gb477, 4, none⟩ = some (.int .i64 0) := bz_ BK477 4
 have hfs19 := blk_frozen BK477.out 4
 have hns19_1 := NB489_477.out
 have hms19_1 := NB477_489.out
 have hs20 : w14.cell? ⟨gb477, 5, none⟩ = some (.bool false) := bz_ BK477 5
 have hfs20 := blk_frozen BK477.out 5
 have hns20_1 := NB489_477.out
 have hms20_1 := NB477_489.out
 have hs21 : w14.cell? ⟨gb477, 6, none⟩ = some (.int .i64 0) := bz_ BK477 6
 have hfs21 := blk_frozen BK477.out 6
 have hns21_1 := NB489_477.out
 have hms21_1 := NB477_489.out
 refine skip_ (w1 := ?_) (by rfl) rfl ?_ ?_
 rotate_left
 ·go_simp
  rfl
 refine hK.out _ _ ⟨((cell_far (p := ⟨gb477, _, none⟩) NB489_477.out _).trans (((cell_far (p := ⟨gb477, _, none⟩) NB489_477.out _).trans (((cell_far (p := ⟨gb477, _, none⟩) NB489_477.out _).trans (((cell_far (p := ⟨gb477, _, none⟩) NB489_477.out _).trans (((cell_far (p := ⟨gb477, _, none⟩) NB489_477.out _).trans (((cell_far (p := ⟨gb477, _, none⟩) NB489_477.out _).trans (((cell_far (p := ⟨gb477, _, none⟩) NB489_477.out _).trans (hHeld.1)))))))))))))), ((cell_far (p := ⟨gb477, _, none⟩) NB489_477.out _).trans (((cell_far (p := ⟨gb477, _, none⟩) NB489_477.out _).trans (((cell_far (p := ⟨gb477, _, none⟩) NB489_477.out _).trans (((cell_far (p := ⟨gb477, _, none⟩) NB489_477.out _).trans (((cell_far (p := ⟨gb477, _, none⟩) NB489_477.out _).trans (((cell_far (p := ⟨gb477, _, none⟩) NB489_477.out _).trans (((cell_far (p := ⟨gb477, _, none⟩) NB489_477.out _).trans (hHeld.2.1)))))))))))))), ((cell_far (p := ⟨gb477, _, none⟩) NB489_477.out _).trans (((cell_far (p := ⟨gb477, _, none⟩) NB489_477.out _).trans (((cell_far (p := ⟨gb477, _, none⟩) NB489_477.out _).trans (((cell_far (p := ⟨gb477, _, none⟩) NB489_477.out _).trans (((cell_far (p := ⟨gb477, _, none⟩) NB489_477.out _).trans (((cell_far (p := ⟨gb477, _, none⟩) NB489_477.out _).trans (((cell_far (p := ⟨gb477, _, none⟩) NB489_477.out _).trans (hHeld.2.2.1)))))))))))))), ((cell_far (p := ⟨gb477, _, none⟩) NB489_477.out _).trans (((cell_far (p := ⟨gb477, _, none⟩) NB489_477.out _).trans (((cell_far (p := ⟨gb477, _, none⟩) NB489_477.out _).trans (((cell_far (p := ⟨gb477, _, none⟩) NB489_477.out _).trans (((cell_far (p := ⟨gb477, _, none⟩) NB489_477.out _).trans (((cell_far (p := ⟨gb477, _, none⟩) NB489_477.out _).trans (((cell_far (p := ⟨gb477, _, none⟩) NB489_477.out _).trans (hHeld.2.2.2.1)))))))))))))), ((cell_far (p := ⟨gb477, _, none⟩) NB489_477.out _).trans (((cell_far (p := ⟨gb477, _, none⟩) NB489_477.out _).trans (((cell_far (p := ⟨gb477, _, none⟩) NB489_477.out _).trans (((cell_far (p := ⟨gb477, _, none⟩) NB489_477.out _).trans (((cell_far (p := ⟨gb477, _, none⟩) NB489_477.out _).trans (((cell_far (p := ⟨gb477, _, none⟩) NB489_477.out _).trans (((cell_far (p := ⟨gb477, _, none⟩) NB489_477.out _).trans (hHeld.2.2.2.2.1)))))))))))))), ((cell_far (p := ⟨gb477, _, none⟩) NB489_477.out _).trans (((cell_far (p := ⟨gb477, _, none⟩) NB489_477.out _).trans (((cell_far (p := ⟨gb477, _, none⟩) NB489_477.out _).trans (((cell_far (p := ⟨gb477, _, none⟩) NB489_477.out _).trans (((cell_far (p := ⟨gb477, _, none⟩) NB489_477.out _).trans (((cell_far (p := ⟨gb477, _, none⟩) NB489_477.out _).trans (((cell_far (p := ⟨gb477, _, none⟩) NB489_477.out _).trans (hHeld.2.2.2.2.2.1)))))))))))))), ((cell_far (p := ⟨gb477, _, none⟩) NB489_477.out _).trans (((cell_far (p := ⟨gb477, _, none⟩) NB489_477.out _).trans (((cell_far (p := ⟨gb477, _, none⟩) NB489_477.out _).trans (((cell_far (p := ⟨gb477, _, none⟩) NB489_477.out _).trans (((cell_far (p := ⟨gb477, _, none⟩) NB489_477.out _).trans (((cell_far (p := ⟨gb477, _, none⟩) NB489_477.out _).trans (((cell_far (p := ⟨gb477, _, none⟩) NB489_477.out _).trans (hHeld.2.2.2.2.2.2))))))))))))))⟩ (fun hHeld => ?_)
 clear hK K
 refine pure_ (i := 4) (N := some 3) (v := ?_) (a' := ?_) #[true, true, true, true, true] rfl rfl (by kernel_rfl) (fun _ _ _ h => h) (Or.inl ⟨by rfl, ?_⟩) ?_ ?_
 rotate_left
 ·intro w'
  go_simp
  with_reducible rfl
 rotate_left
 ·simp only [Act.put, List.setIfInBounds_toArray, List.set_cons_zero, List.set_cons_succ, i64_w, i32_w]
  rfl
 refine done_ (by kernel_rfl) ?_
 try go_wp2
 refine bodyPost_ret (results_ct rfl _ _ gb477 32 #[.string t481, .int .i64 t482, .int .i64 t483, .string t484, .int .i64 t485, .bool t486, .int .i64 t487] (0, 0) _ rfl (by (with_reducible repeat (first | refine blk_drewN ?_ _ | refine blk_drew ?_ | refine blk_alloc ?_ _)); refine blk_put (cs := #[.string t481, .int .i64 t482, .int .i64 t483, .string t484, .int .i64 t485, .bool t486, .int .i64 0]) ?_ 6 _ rfl; (with_reducible repeat (first | refine blk_drewN ?_ _ | refine blk_drew ?_ | refine blk_alloc ?_ _)); refine blk_put (cs := #[.string t481, .int .i64 t482, .int .i64 t483, .string t484, .int .i64 t485, .bool false, .int .i64 0]) ?_ 5 _ rfl; (with_reducible repeat (first | refine blk_drewN ?_ _ | refine blk_drew ?_ | refine blk_alloc ?_ _)); refine blk_put (cs := #[.string t481, .int .i64 t482, .int .i64 t483, .string t484, .int .i64 0, .bool false, .int .i64 0]) ?_ 4 _ rfl; (with_reducible repeat (first | refine blk_drewN ?_ _ | refine blk_drew ?_ | refine blk_alloc ?_ _)); refine blk_put (cs := #[.string t481, .int .i64 t482, .int .i64 t483, .string (⟨#[]⟩ : ByteArray), .int .i64 0, .bool false, .int .i64 0]) ?_ 3 _ rfl; (with_reducible repeat (first | refine blk_drewN ?_ _ | refine blk_drew ?_ | refine blk_alloc ?_ _)); refine blk_put (cs := #[.string t481, .int .i64 t482, .int .i64 0, .string (⟨#[]⟩ : ByteArray), .int .i64 0, .bool false, .int .i64 0]) ?_ 2 _ rfl; (with_reducible repeat (first | refine blk_drewN ?_ _ | refine blk_drew ?_ | refine blk_alloc ?_ _)); refine blk_put (cs := #[.string t481, .int .i64 0, .int .i64 0, .string (⟨#[]⟩ : ByteArray), .int .i64 0, .bool false, .int .i64 0]) ?_ 1 _ rfl; (with_reducible repeat (first | refine blk_drewN ?_ _ | refine blk_drew ?_ | refine blk_alloc ?_ _)); refine blk_put (cs := #[.string (⟨#[]⟩ : ByteArray), .int .i64 0, .int .i64 0, .string (⟨#[]⟩ : ByteArray), .int .i64 0, .bool false, .int .i64 0]) ?_ 0 _ rfl; (with_reducible repeat (first | refine blk_drewN ?_ _ | refine blk_drew ?_ | refine blk_alloc ?_ _)); exact BK477.out) Try.underlying32 rfl (by kernel_rfl)) rfl ?_
 exact ⟨q76_, q20_⟩
def impl_isWord.f (a0 : Int) : Option (Bool) := (impl_within.f a0 0 65535).bind fun t492 => (some t492)
theorem impl_isWord.calls (a0 : Int) (r : Bool) (w : World) (h : impl_isWord.f a0 = some r) :
  Calls Try.prog 59 #[.int .i64 a0] w fun e w' => e = .returned (.bool r) ∧ Drawn0 w w' := by
 have H : ((impl_within.f a0 0 65535).bind fun t492 => (some t492)) = some r := h
 clear h
 replace H := Option.bind_eq_some_iff.mp H
 obtain ⟨t492, A20, H⟩ := H
 have A2 := Aside0.mk A20
 clear A20
 obtain rfl := Option.some.inj H
 go_enter Try.func59, Try.ntmps59
 go_wp2_with (first | ((with_reducible refine gate_callee (f := 38) rfl ?_); refine goesL_ (some 4) rfl rfl Try.func38 (by kernel_rfl) rfl #[.int .i64 a0, .int .i64 0, .int .i64 65535] rfl q74_ ?_; (with_reducible refine (impl_within.calls a0 0 65535 t492 _ A2.out).mono ?_); rintro e w' ⟨rfl, ⟨nd, rfl⟩⟩; refine ⟨_, rfl, ?_⟩))
 go_ret
 exact ⟨q101_, q108_⟩
end Go.Proofs.Ytcohcndliaaacaa.QFnCartReads
