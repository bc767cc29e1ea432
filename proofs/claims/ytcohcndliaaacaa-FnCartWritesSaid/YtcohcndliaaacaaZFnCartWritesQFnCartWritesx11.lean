/- The machine's side of a law, written by a program of this session for this claim. -/
import Derived.Test.YtcohcndliaaacaaZFnCartWritesQq
import Derived.Test.YtcohcndliaaacaaZFnCartWritesQFnCartWritesx0
import Derived.Test.YtcohcndliaaacaaZFnCartWritesQFnCartWritesx2
import Derived.Test.YtcohcndliaaacaaZFnCartWritesQFnCartWritesx4
import Derived.Test.YtcohcndliaaacaaZFnCartWritesQFnCartWritesx10
namespace Go.Proofs.Ytcohcndliaaacaa.QFnCartWrites
open Go.Proofs.Ytcohcndliaaacaa.Qq
open Go.RowKit Go.Proofs.Ytcohcndliaaacaa.LibX Go.Proofs.Ytcohcndliaaacaa.LibC Go.Proofs.YtcohcndliaaacaaW.PrintWords Go.Proofs.YtcohcndliaaacaaW.PrintLast Go.Proofs.YtcohcndliaaacaaW.PrintMore
attribute [local go_sem] max2_int min2_int max_two min_two max_three min_three max_four min_four   -- for this text's walks alone
set_option maxHeartbeats 8000000
set_option maxRecDepth 100000
set_option linter.unusedVariables false
set_option linter.unusedSimpArgs false
mutual
def spec_l1Rd_cart.l0 : Nat → Bool → Int → List Int → Int → ByteArray → Int → Int → ByteArray → Int → Bool → Int → Option (ByteArray × Int × Int × ByteArray × Int × Bool × Int × Int)
 | 0, _, _, _, _, _, _, _, _, _, _, _ => none
 | k + 1, x4, x5, x1000, x1001, x447000, x447001, x447002, x447003, x447004, x447005, x447006 => if x5 > 0 then (spec_l1Rd_cart.j1 k x5 x4 x1000 x1001 x447000 x447001 x447002 x447003 x447004 x447005 x447006) else (spec_l1Rd_cart.j1 k x5 false x1000 x1001 x447000 x447001 x447002 x447003 x447004 x447005 x447006)
def spec_l1Rd_cart.j1 : Nat → Int → Bool → List Int → Int → ByteArray → Int → Int → ByteArray → Int → Bool → Int → Option (ByteArray × Int × Int × ByteArray × Int × Bool × Int × Int)
 | 0, _, _, _, _, _, _, _, _, _, _, _ => none
 | k + 1, x5, x20, x1000, x1001, x447000, x447001, x447002, x447003, x447004, x447005, x447006 => if x20 = true then ((spec_l1Rd_addr.f k x1000 x1001).bind fun bt449 => ((spec_l1Rd_byte.f x1000 bt449.2).bind fun bt451 => ((spec_CartWrite.f k x447000 x447001 x447002 x447003 x447004 x447005 x447006 bt449.1 bt451.1).bind fun bt453 => (spec_l1Rd_cart.l0 k bt453.2.2.2.2.2.2.2 (wrap64 (x5 - 1)) x1000 bt451.2 bt453.1 bt453.2.1 bt453.2.2.1 bt453.2.2.2.1 bt453.2.2.2.2.1 bt453.2.2.2.2.2.1 bt453.2.2.2.2.2.2.1)))) else ((spec_l1Rd_once.f x1000 x1001 30).bind fun bt461 => (if bt461.1 = true then ((spec_l1Rd_off.f k x1000 bt461.2 0 31).bind fun bt463 => (some (x447000, x447001, bt463.1, x447003, x447004, x447005, x447006, bt463.2))) else (some (x447000, x447001, x447002, x447003, x447004, x447005, x447006, bt461.2))))
end
def spec_l1Rd_cart.f (k : Nat) (s0_0 : List Int) (s0_1 : Int) : Option (ByteArray × Int × Int × ByteArray × Int × Bool × Int × Int) := (spec_l1Rd_rom.f k s0_0 s0_1).bind fun bt434 => ((spec_l1Rd_below.f s0_0 bt434.2 3).bind fun bt436 => ((spec_CartNew.f k bt434.1 bt436.1).bind fun bt438 => ((spec_l1Rd_below.f s0_0 bt436.2 6).bind fun bt447 => (spec_l1Rd_cart.l0 k bt438.2.2.2.2.2.2.2 bt447.1 s0_0 bt447.2 bt438.1 bt438.2.1 bt438.2.2.1 bt438.2.2.2.1 bt438.2.2.2.2.1 bt438.2.2.2.2.2.1 bt438.2.2.2.2.2.2.1))))
theorem spec_l1Rd_cart.mono_l : ∀ k, (∀ y0 y1 y2 y3 y4 y5 y6 y7 y8 y9 y10, LeO (spec_l1Rd_cart.l0 k y0 y1 y2 y3 y4 y5 y6 y7 y8 y9 y10) (spec_l1Rd_cart.l0 (k + 1) y0 y1 y2 y3 y4 y5 y6 y7 y8 y9 y10)) ∧ (∀ y0 y1 y2 y3 y4 y5 y6 y7 y8 y9 y10, LeO (spec_l1Rd_cart.j1 k y0 y1 y2 y3 y4 y5 y6 y7 y8 y9 y10) (spec_l1Rd_cart.j1 (k + 1) y0 y1 y2 y3 y4 y5 y6 y7 y8 y9 y10))
 | 0 => ⟨fun _ _ _ _ _ _ _ _ _ _ _ r h => by simp [spec_l1Rd_cart.l0] at h, fun _ _ _ _ _ _ _ _ _ _ _ r h => by simp [spec_l1Rd_cart.j1] at h⟩
 | k + 1 => by
  obtain ⟨ih0, ih1⟩ := spec_l1Rd_cart.mono_l k
  refine ⟨?_, ?_⟩
  ·intro y0 y1 y2 y3 y4 y5 y6 y7 y8 y9 y10
   unfold spec_l1Rd_cart.l0
   repeat' first
   | (with_reducible first | exact ih0 _ _ _ _ _ _ _ _ _ _ _ | exact ih1 _ _ _ _ _ _ _ _ _ _ _ | exact spec_CartNew.mono _ _ _ | exact spec_CartWrite.mono _ _ _ _ _ _ _ _ _ _ | exact spec_l1Rd_addr.mono _ _ _ | exact spec_l1Rd_off.mono _ _ _ _ _ | exact spec_l1Rd_rom.mono _ _ _ | exact LeO.refl _ | exact LeO.none _ | refine LeO.ite ?_ ?_ | refine LeO.bind ?_ (fun _ => ?_))
   | exact ih0 _ _ _ _ _ _ _ _ _ _ _
   | exact ih1 _ _ _ _ _ _ _ _ _ _ _
   | exact spec_CartNew.mono _ _ _
   | exact spec_CartWrite.mono _ _ _ _ _ _ _ _ _ _
   | exact spec_l1Rd_addr.mono _ _ _
   | exact spec_l1Rd_off.mono _ _ _ _ _
   | exact spec_l1Rd_rom.mono _ _ _
   | exact LeO.none _
   | refine LeO.ite ?_ ?_
   | refine LeO.bind ?_ (fun _ => ?_)
  ·intro y0 y1 y2 y3 y4 y5 y6 y7 y8 y9 y10
   unfold spec_l1Rd_cart.j1
   repeat' first
   | (with_reducible first | exact ih0 _ _ _ _ _ _ _ _ _ _ _ | exact ih1 _ _ _ _ _ _ _ _ _ _ _ | exact spec_CartNew.mono _ _ _ | exact spec_CartWrite.mono _ _ _ _ _ _ _ _ _ _ | exact spec_l1Rd_addr.mono _ _ _ | exact spec_l1Rd_off.mono _ _ _ _ _ | exact spec_l1Rd_rom.mono _ _ _ | exact LeO.refl _ | exact LeO.none _ | refine LeO.ite ?_ ?_ | refine LeO.bind ?_ (fun _ => ?_))
   | exact ih0 _ _ _ _ _ _ _ _ _ _ _
   | exact ih1 _ _ _ _ _ _ _ _ _ _ _
   | exact spec_CartNew.mono _ _ _
   | exact spec_CartWrite.mono _ _ _ _ _ _ _ _ _ _
   | exact spec_l1Rd_addr.mono _ _ _
   | exact spec_l1Rd_off.mono _ _ _ _ _
   | exact spec_l1Rd_rom.mono _ _ _
   | exact LeO.none _
   | refine LeO.ite ?_ ?_
   | refine LeO.bind ?_ (fun _ => ?_)
theorem spec_l1Rd_cart.mono : ∀ a0 a1 k, LeO (spec_l1Rd_cart.f k a0 a1) (spec_l1Rd_cart.f (k + 1) a0 a1) := by
 intro a0 a1 k
 obtain ⟨ih0, ih1⟩ := spec_l1Rd_cart.mono_l k
 unfold spec_l1Rd_cart.f
 repeat' first
   | (with_reducible first | exact ih0 _ _ _ _ _ _ _ _ _ _ _ | exact ih1 _ _ _ _ _ _ _ _ _ _ _ | exact spec_CartNew.mono _ _ _ | exact spec_CartWrite.mono _ _ _ _ _ _ _ _ _ _ | exact spec_l1Rd_addr.mono _ _ _ | exact spec_l1Rd_off.mono _ _ _ _ _ | exact spec_l1Rd_rom.mono _ _ _ | exact LeO.refl _ | exact LeO.none _ | refine LeO.ite ?_ ?_ | refine LeO.bind ?_ (fun _ => ?_))
   | exact ih0 _ _ _ _ _ _ _ _ _ _ _
   | exact ih1 _ _ _ _ _ _ _ _ _ _ _
   | exact spec_CartNew.mono _ _ _
   | exact spec_CartWrite.mono _ _ _ _ _ _ _ _ _ _
   | exact spec_l1Rd_addr.mono _ _ _
   | exact spec_l1Rd_off.mono _ _ _ _ _
   | exact spec_l1Rd_rom.mono _ _ _
   | exact LeO.none _
   | refine LeO.ite ?_ ?_
   | refine LeO.bind ?_ (fun _ => ?_)
def spec_l1Rd_cart.T5 : Bool × List (List Nat × List Nat) := (true, [([], []), ([], []), ([1], [1]), ([], []), ([3, 2], [3]), ([0, 2, 4, 4], [0, 2, 4]), ([5], [5]), ([6], [6]), ([6], [6]), ([7, 5, 0, 1, 2, 3, 4, 5, 6, 7], [7]), ([8, 9, 0, 1, 2, 3, 4, 5, 6, 7, 8, 9], [8])])
def spec_l1Rd_cart.B5 : List Nat := [0, 0, 2, 0, 14, 31, 63, 127, 127, 255, 1023]
theorem spec_l1Rd_cart.tab5 : rtab .any (opsOf Try.f54 5) = spec_l1Rd_cart.T5 := by kernel_rfl
theorem spec_l1Rd_cart.bits5 : waitsOk spec_l1Rd_cart.T5.2 spec_l1Rd_cart.B5 = true := by kernel_rfl
theorem spec_l1Rd_cart.calls (k : Nat) (g : Nat) (s0_0 : List Int) (s0_1 : Int) (r1 : ByteArray) (r2 : Int) (r3 : Int) (r4 : ByteArray) (r5 : Int) (r6 : Bool) (r7 : Int) (r8 : Int) (w0 w : World) (hI : IsS78 w0 w g s0_0 s0_1) (hB : Below w0.heap.size w0 w) (h : spec_l1Rd_cart.f k s0_0 s0_1 = some (r1, r2, r3, r4, r5, r6, r7, r8)) :
  Calls Try.prog 54 #[.pointer (some ⟨g, 0, none⟩)] w fun e w' => e = .returned (.agg #[.string r1, .int .i64 r2, .int .i64 r3, .string r4, .int .i64 r5, .bool r6, .int .i64 r7]) ∧ IsS78 w0 w' g s0_0 r8 ∧ Below w0.heap.size w0 w' ∧ KeepBut w w' g none := by
 have hu32 := Try.underlying32
 have HI0 := Aside0.mk hI
 have HK := Aside0.mk (KeepBut.refl w g none)
 have HL := Aside0.mk hB.size
 clear hI
 have HW0 := Aside0.mk hB.size
 have HB := Aside0.mk hB
 clear hB
 have H : ((spec_l1Rd_rom.f k s0_0 s0_1).bind fun bt434 => ((spec_l1Rd_below.f s0_0 bt434.2 3).bind fun bt436 => ((spec_CartNew.f k bt434.1 bt436.1).bind fun bt438 => ((spec_l1Rd_below.f s0_0 bt436.2 6).bind fun bt447 => (spec_l1Rd_cart.l0 k bt438.2.2.2.2.2.2.2 bt447.1 s0_0 bt447.2 bt438.1 bt438.2.1 bt438.2.2.1 bt438.2.2.2.1 bt438.2.2.2.2.1 bt438.2.2.2.2.2.1 bt438.2.2.2.2.2.2.1))))) = some (r1, r2, r3, r4, r5, r6, r7, r8) := h
 clear h
 replace H := Option.bind_eq_some_iff.mp H
 obtain ⟨⟨t434, t435⟩, A20, H⟩ := H
 replace H : ((spec_l1Rd_below.f s0_0 t435 3).bind fun bt436 => ((spec_CartNew.f k t434 bt436.1).bind fun bt438 => ((spec_l1Rd_below.f s0_0 bt436.2 6).bind fun bt447 => (spec_l1Rd_cart.l0 k bt438.2.2.2.2.2.2.2 bt447.1 s0_0 bt447.2 bt438.1 bt438.2.1 bt438.2.2.1 bt438.2.2.2.1 bt438.2.2.2.2.1 bt438.2.2.2.2.2.1 bt438.2.2.2.2.2.2.1)))) = some (r1, r2, r3, r4, r5, r6, r7, r8) := H
 have A2 := Aside0.mk A20
 clear A20
 replace H := Option.bind_eq_some_iff.mp H
 obtain ⟨⟨t436, t437⟩, A30, H⟩ := H
 replace H : ((spec_CartNew.f k t434 t436).bind fun bt438 => ((spec_l1Rd_below.f s0_0 t437 6).bind fun bt447 => (spec_l1Rd_cart.l0 k bt438.2.2.2.2.2.2.2 bt447.1 s0_0 bt447.2 bt438.1 bt438.2.1 bt438.2.2.1 bt438.2.2.2.1 bt438.2.2.2.2.1 bt438.2.2.2.2.2.1 bt438.2.2.2.2.2.2.1))) = some (r1, r2, r3, r4, r5, r6, r7, r8) := H
 have A3 := Aside0.mk A30
 clear A30
 replace H := Option.bind_eq_some_iff.mp H
 obtain ⟨⟨t438, t439, t440, t441, t442, t443, t444, t445⟩, A40, H⟩ := H
 replace H : ((spec_l1Rd_below.f s0_0 t437 6).bind fun bt447 => (spec_l1Rd_cart.l0 k t445 bt447.1 s0_0 bt447.2 t438 t439 t440 t441 t442 t443 t444)) = some (r1, r2, r3, r4, r5, r6, r7, r8) := H
 have A4 := Aside0.mk A40
 clear A40
 replace H := Option.bind_eq_some_iff.mp H
 obtain ⟨⟨t447, t448⟩, A50, H⟩ := H
 replace H : (spec_l1Rd_cart.l0 k t445 t447 s0_0 t448 t438 t439 t440 t441 t442 t443 t444) = some (r1, r2, r3, r4, r5, r6, r7, r8) := H
 have A5 := Aside0.mk A50
 clear A50
 have H' := Aside0.mk H
 clear H
 go_enter Try.func54, Try.ntmps54
 go_wp2_with (first | ((with_reducible refine gate_dst (N := 2) rfl ?_); refine box_event ?hg (N := 2) ?hd (cs := #[.string (⟨#[]⟩ : ByteArray), .int .i64 0, .int .i64 0, .string (⟨#[]⟩ : ByteArray), .int .i64 0, .bool false, .int .i64 0]) (t := 32) ?hr ?_; (case hd => rfl); (case hg => rfl); (case hr => exact q175_); intro gb433 hg w6 hbox hb; have n0_ := Aside0.mk (IsS78.below q95_ hb); have n1_ := Aside0.mk (KeepBut.trans q96_ (KeepBut.of_below hb g none) (.inl rfl)); have n2_ := Aside0.mk (below_step q78_ hb); have n3_ := Aside0.mk (hbox); have n4_ := Aside0.mk ((q54_ : w.heap.size ≤ gb433)); have n5_ := Aside0.mk ((Nat.le_trans HW0.out (q54_ : w.heap.size ≤ gb433) : w0.heap.size ≤ gb433)); have n6_ := Aside0.mk ((q44_ : g ≠ gb433)); have n7_ := Aside0.mk ((q45_ : gb433 ≠ g)); clear HI0; clear HK; clear HB; have HI0 := n0_; have HK := n1_; have HB := n2_; have BK433 := n3_; have GW433 := n4_; have GE433 := n5_; have NB0_433 := n6_; have NB433_0 := n7_; clear n0_ n1_ n2_ n3_ n4_ n5_ n6_ n7_; clear hb hbox hg) | ((with_reducible refine gate_callee (f := 69) rfl ?_); refine goesL_ (some 8) rfl rfl Try.func69 (by kernel_rfl) rfl #[.pointer (some ⟨g, 0, none⟩)] rfl q101_ ?_; (with_reducible refine (spec_l1Rd_rom.calls k g s0_0 s0_1 t434 t435 w0 _ ?side1 ?side2 A2.out).mono ?_); (case side1 => exact q170_); (case side2 => exact q167_); rintro e w7 ⟨rfl, hi, hb, hk⟩; refine ⟨_, rfl, ?_⟩; have n0_ := Aside0.mk (KeepBut.blk hk (g' := gb433) (o := .cells #[.string (⟨#[]⟩ : ByteArray), .int .i64 0, .int .i64 0, .string (⟨#[]⟩ : ByteArray), .int .i64 0, .bool false, .int .i64 0] 32 (0, 0)) q116_ NB433_0.out (by simp)); have n1_ := Aside0.mk (KeepBut.trans q77_ hk (.inl rfl)); have n2_ := Aside0.mk (hb); have n3_ := Aside0.mk (hi); clear BK433; clear HK; clear HB; clear HI0; have BK433 := n0_; have HK := n1_; have HB := n2_; have HI0 := n3_; clear n0_ n1_ n2_ n3_; (try clear hb); (try clear hk); (try clear hi)) | ((with_reducible refine gate_callee (f := 37) rfl ?_); refine goesL_ (some 10) rfl rfl Try.func37 (by kernel_rfl) rfl #[.pointer (some ⟨g, 0, none⟩), .int .i64 3] rfl q101_ ?_; (with_reducible refine (spec_l1Rd_below.calls g s0_0 t435 3 t436 t437 w0 _ ?side1 ?side2 A3.out).mono ?_); (case side1 => exact q170_); (case side2 => exact q167_); rintro e w8 ⟨rfl, hi, hb, hk⟩; refine ⟨_, rfl, ?_⟩; have n0_ := Aside0.mk (KeepBut.blk hk (g' := gb433) (o := .cells #[.string (⟨#[]⟩ : ByteArray), .int .i64 0, .int .i64 0, .string (⟨#[]⟩ : ByteArray), .int .i64 0, .bool false, .int .i64 0] 32 (0, 0)) q116_ NB433_0.out (by simp)); have n1_ := Aside0.mk (KeepBut.trans q77_ hk (.inl rfl)); have n2_ := Aside0.mk (hb); have n3_ := Aside0.mk (hi); clear BK433; clear HK; clear HB; clear HI0; have BK433 := n0_; have HK := n1_; have HB := n2_; have HI0 := n3_; clear n0_ n1_ n2_ n3_; (try clear hb); (try clear hk); (try clear hi)) | ((with_reducible refine gate_callee (f := 30) rfl ?_); refine goesL_ (some 11) rfl rfl Try.func30 (by kernel_rfl) rfl #[.string t434, .int .i64 t436] rfl q101_ ?_; (with_reducible refine (spec_CartNew.calls k t434 t436 t438 t439 t440 t441 t442 t443 t444 t445 _ A4.out).mono ?_); rintro e w9 ⟨rfl, hb⟩; refine ⟨_, rfl, ?_⟩; have n0_ := Aside0.mk (IsS78.below q74_ hb); have n1_ := Aside0.mk (blk_below (g := gb433) (o := .cells #[.string (⟨#[]⟩ : ByteArray), .int .i64 0, .int .i64 0, .string (⟨#[]⟩ : ByteArray), .int .i64 0, .bool false, .int .i64 0] 32 (0, 0)) q116_ hb); have n2_ := Aside0.mk (KeepBut.trans q77_ (KeepBut.of_below hb g none) (.inl rfl)); have n3_ := Aside0.mk (below_step q56_ hb); clear HI0; clear BK433; clear HK; clear HB; have HI0 := n0_; have BK433 := n1_; have HK := n2_; have HB := n3_; clear n0_ n1_ n2_ n3_; (try clear hb)) | ((with_reducible refine gate_dst (N := 3) rfl ?_); refine box_event ?hg (N := 3) ?hd (cs := #[.string (⟨#[]⟩ : ByteArray), .int .i64 0, .int .i64 0, .string (⟨#[]⟩ : ByteArray), .int .i64 0, .bool false, .int .i64 0]) (t := 32) ?hr ?_; (case hd => rfl); (case hg => rfl); (case hr => exact q175_); intro gb446 hg w10 hbox hb; have n0_ := Aside0.mk (IsS78.below q74_ hb); have n1_ := Aside0.mk (blk_below (g := gb433) (o := .cells #[.string (⟨#[]⟩ : ByteArray), .int .i64 0, .int .i64 0, .string (⟨#[]⟩ : ByteArray), .int .i64 0, .bool false, .int .i64 0] 32 (0, 0)) q116_ hb); have n2_ := Aside0.mk (KeepBut.trans q77_ (KeepBut.of_below hb g none) (.inl rfl)); have n3_ := Aside0.mk (below_step q56_ hb); have n4_ := Aside0.mk (hbox); have n5_ := Aside0.mk ((q36_ : w.heap.size ≤ gb446)); have n6_ := Aside0.mk ((Nat.le_trans HW0.out (q36_ : w.heap.size ≤ gb446) : w0.heap.size ≤ gb446)); have n7_ := Aside0.mk ((by rw [hg]; exact Nat.ne_of_lt (blk_lt (g := gb433) (o := .cells #[.string (⟨#[]⟩ : ByteArray), .int .i64 0, .int .i64 0, .string (⟨#[]⟩ : ByteArray), .int .i64 0, .bool false, .int .i64 0] 32 (0, 0)) q116_) : gb433 ≠ gb446)); have n8_ := Aside0.mk ((by rw [hg]; exact Nat.ne_of_gt (blk_lt (g := gb433) (o := .cells #[.string (⟨#[]⟩ : ByteArray), .int .i64 0, .int .i64 0, .string (⟨#[]⟩ : ByteArray), .int .i64 0, .bool false, .int .i64 0] 32 (0, 0)) q116_) : gb446 ≠ gb433)); have n9_ := Aside0.mk ((by rw [hg]; exact Nat.ne_of_lt (IsS78.lt (show IsS78 w0 _ g s0_0 t437 from by repeat (first | (with_reducible first | exact HI0.out | apply IsS78.alloc | apply IsS78.drewN | apply IsS78.drew | apply IsS78.set_1 | refine IsS78.far ?_ NB0_433.out _) | exact HI0.out))) : g ≠ gb446)); have n10_ := Aside0.mk ((by rw [hg]; exact Nat.ne_of_gt (IsS78.lt (show IsS78 w0 _ g s0_0 t437 from by repeat (first | (with_reducible first | exact HI0.out | apply IsS78.alloc | apply IsS78.drewN | apply IsS78.drew | apply IsS78.set_1 | refine IsS78.far ?_ NB0_433.out _) | exact HI0.out))) : gb446 ≠ g)); clear HI0; clear BK433; clear HK; clear HB; have HI0 := n0_; have BK433 := n1_; have HK := n2_; have HB := n3_; have BK446 := n4_; have GW446 := n5_; have GE446 := n6_; have NB433_446 := n7_; have NB446_433 := n8_; have NB0_446 := n9_; have NB446_0 := n10_; clear n0_ n1_ n2_ n3_ n4_ n5_ n6_ n7_ n8_ n9_ n10_; clear hb hbox hg; have hnb11 := NB446_433.out; have hnc11 := NB433_446.out; have hnb12 := NB446_0.out; have hnc12 := NB0_446.out; have hcz13_0 : w10.cell? ⟨gb446, 0, none⟩ = some (.string (⟨#[]⟩ : ByteArray)) := (blk_cell BK446.out 0).trans rfl; have hcz13_1 : w10.cell? ⟨gb446, 1, none⟩ = some (.int .i64 0) := (blk_cell BK446.out 1).trans rfl; have hcz13_2 : w10.cell? ⟨gb446, 2, none⟩ = some (.int .i64 0) := (blk_cell BK446.out 2).trans rfl; have hcz13_3 : w10.cell? ⟨gb446, 3, none⟩ = some (.string (⟨#[]⟩ : ByteArray)) := (blk_cell BK446.out 3).trans rfl; have hcz13_4 : w10.cell? ⟨gb446, 4, none⟩ = some (.int .i64 0) := (blk_cell BK446.out 4).trans rfl; have hcz13_5 : w10.cell? ⟨gb446, 5, none⟩ = some (.bool false) := (blk_cell BK446.out 5).trans rfl; have hcz13_6 : w10.cell? ⟨gb446, 6, none⟩ = some (.int .i64 0) := (blk_cell BK446.out 6).trans rfl; have hfz13_0 := blk_frozen BK446.out 0; have hfz13_1 := blk_frozen BK446.out 1; have hfz13_2 := blk_frozen BK446.out 2; have hfz13_3 := blk_frozen BK446.out 3; have hfz13_4 := blk_frozen BK446.out 4; have hfz13_5 := blk_frozen BK446.out 5; have hfz13_6 := blk_frozen BK446.out 6) | ((with_reducible refine gate_callee (f := 37) rfl ?_); refine goesL_ (some 15) rfl rfl Try.func37 (by kernel_rfl) rfl #[.pointer (some ⟨g, 0, none⟩), .int .i64 6] rfl q101_ ?_; (with_reducible refine (spec_l1Rd_below.calls g s0_0 t437 6 t447 t448 w0 _ ?side1 ?side2 A5.out).mono ?_); (case side1 => exact q164_); (case side2 => exact q160_); rintro e w14 ⟨rfl, hi, hb, hk⟩; refine ⟨_, rfl, ?_⟩; have n0_ := Aside0.mk (KeepBut.blk hk (g' := gb433) (o := .cells #[.string (⟨#[]⟩ : ByteArray), .int .i64 0, .int .i64 0, .string (⟨#[]⟩ : ByteArray), .int .i64 0, .bool false, .int .i64 0] 32 (0, 0)) q9_ NB433_0.out (by simp)); have n1_ := Aside0.mk (KeepBut.blk hk (g' := gb446) (o := .cells #[.string t438, .int .i64 t439, .int .i64 t440, .string t441, .int .i64 t442, .bool t443, .int .i64 t444] 32 (0, 0)) (by (with_reducible repeat (first | refine blk_drewN ?_ _ | refine blk_drew ?_ | refine blk_alloc ?_ _)); refine blk_put (cs := #[.string t438, .int .i64 t439, .int .i64 t440, .string t441, .int .i64 t442, .bool t443, .int .i64 0]) ?_ 6 _ rfl; (with_reducible repeat (first | refine blk_drewN ?_ _ | refine blk_drew ?_ | refine blk_alloc ?_ _)); refine blk_put (cs := #[.string t438, .int .i64 t439, .int .i64 t440, .string t441, .int .i64 t442, .bool false, .int .i64 0]) ?_ 5 _ rfl; (with_reducible repeat (first | refine blk_drewN ?_ _ | refine blk_drew ?_ | refine blk_alloc ?_ _)); refine blk_put (cs := #[.string t438, .int .i64 t439, .int .i64 t440, .string t441, .int .i64 0, .bool false, .int .i64 0]) ?_ 4 _ rfl; (with_reducible repeat (first | refine blk_drewN ?_ _ | refine blk_drew ?_ | refine blk_alloc ?_ _)); refine blk_put (cs := #[.string t438, .int .i64 t439, .int .i64 t440, .string (⟨#[]⟩ : ByteArray), .int .i64 0, .bool false, .int .i64 0]) ?_ 3 _ rfl; (with_reducible repeat (first | refine blk_drewN ?_ _ | refine blk_drew ?_ | refine blk_alloc ?_ _)); refine blk_put (cs := #[.string t438, .int .i64 t439, .int .i64 0, .string (⟨#[]⟩ : ByteArray), .int .i64 0, .bool false, .int .i64 0]) ?_ 2 _ rfl; (with_reducible repeat (first | refine blk_drewN ?_ _ | refine blk_drew ?_ | refine blk_alloc ?_ _)); refine blk_put (cs := #[.string t438, .int .i64 0, .int .i64 0, .string (⟨#[]⟩ : ByteArray), .int .i64 0, .bool false, .int .i64 0]) ?_ 1 _ rfl; (with_reducible repeat (first | refine blk_drewN ?_ _ | refine blk_drew ?_ | refine blk_alloc ?_ _)); refine blk_put (cs := #[.string (⟨#[]⟩ : ByteArray), .int .i64 0, .int .i64 0, .string (⟨#[]⟩ : ByteArray), .int .i64 0, .bool false, .int .i64 0]) ?_ 0 _ rfl; (with_reducible repeat (first | refine blk_drewN ?_ _ | refine blk_drew ?_ | refine blk_alloc ?_ _)); exact BK446.out) NB446_0.out (by simp)); have n2_ := Aside0.mk (KeepBut.trans q53_ hk (.inl rfl)); have n3_ := Aside0.mk (hb); have n4_ := Aside0.mk (hi); clear BK433; clear BK446; clear HK; clear HB; clear HI0; have BK433 := n0_; have BK446 := n1_; have HK := n2_; have HB := n3_; have HI0 := n4_; clear n0_ n1_ n2_ n3_ n4_; (try clear hb); (try clear hk); (try clear hi)))
 go_loopg [4, 5] k (fun kq v4 v5 w' => ∃ (x4_1 : Bool) (x5_1 : Int) (x1001_1 : Int) (x447000_1 : ByteArray) (x447001_1 : Int) (x447002_1 : Int) (x447003_1 : ByteArray) (x447004_1 : Int) (x447005_1 : Bool) (x447006_1 : Int), v4 = .bool x4_1 ∧ v5 = .int .i64 x5_1 ∧ Aside0 (spec_l1Rd_cart.l0 kq x4_1 x5_1 s0_0 x1001_1 x447000_1 x447001_1 x447002_1 x447003_1 x447004_1 x447005_1 x447006_1 = some (r1, r2, r3, r4, r5, r6, r7, r8)) ∧ Aside0 (kq ≤ k) ∧ Aside0 (w'.heap[gb433]? = some (.cells #[.string (⟨#[]⟩ : ByteArray), .int .i64 0, .int .i64 0, .string (⟨#[]⟩ : ByteArray), .int .i64 0, .bool false, .int .i64 0] 32 (0, 0))) ∧ Aside0 (w'.heap[gb446]? = some (.cells #[.string x447000_1, .int .i64 x447001_1, .int .i64 x447002_1, .string x447003_1, .int .i64 x447004_1, .bool x447005_1, .int .i64 x447006_1] 32 (0, 0))) ∧ Aside0 (IsS78 w0 w' g s0_0 x1001_1) ∧ Aside0 (KeepBut w w' g none) ∧ Aside0 (Below w0.heap.size w0 w'))
 case atStart => exact ⟨(t445), (t447), (t448), (t438), (t439), (t440), (t441), (t442), (t443), (t444), q133_, q133_, H', ⟨Nat.le_refl _⟩, ⟨q116_⟩, ⟨q117_⟩, ⟨q48_⟩, ⟨q53_⟩, ⟨q41_⟩⟩
 case round =>
  clear H'
  try clear c1
  try clear p2
  try clear c3
  try clear c5
  try clear c6
  try clear p6
  try clear c11
  try clear c12
  try clear hcz13_0 hcz13_1 hcz13_2 hcz13_3 hcz13_4 hcz13_5 hcz13_6
  try clear hfz13_0 hfz13_1 hfz13_2 hfz13_3 hfz13_4 hfz13_5 hfz13_6
  obtain ⟨x4_1, x5_1, x1001_1, x447000_1, x447001_1, x447002_1, x447003_1, x447004_1, x447005_1, x447006_1, rfl, rfl, HA, HK1, BK433, BK446, HI0, HK, HB⟩ := hrel
  cases gk with
  | zero => exact absurd HA.out (by simp [spec_l1Rd_cart.l0])
  | succ k1 =>
   have H := HA.out
   clear HA
   simp only [spec_l1Rd_cart.l0] at H
   have HC15 := Aside0.mk H
   clear H
   go_upto_region 3 with (fail)
   go_cut [20] (fun v20 wc => ∃ (kq : Nat) (x20_14 : Bool), v20 = .bool x20_14 ∧ Aside0 (spec_l1Rd_cart.j1 kq x5_1 x20_14 s0_0 x1001_1 x447000_1 x447001_1 x447002_1 x447003_1 x447004_1 x447005_1 x447006_1 = some (r1, r2, r3, r4, r5, r6, r7, r8)) ∧ Aside0 (kq ≤ k1) ∧ Aside0 (wc.heap[gb433]? = some (.cells #[.string (⟨#[]⟩ : ByteArray), .int .i64 0, .int .i64 0, .string (⟨#[]⟩ : ByteArray), .int .i64 0, .bool false, .int .i64 0] 32 (0, 0))) ∧ Aside0 (wc.heap[gb446]? = some (.cells #[.string x447000_1, .int .i64 x447001_1, .int .i64 x447002_1, .string x447003_1, .int .i64 x447004_1, .bool x447005_1, .int .i64 x447006_1] 32 (0, 0))) ∧ Aside0 (IsS78 w0 wc g s0_0 x1001_1) ∧ Aside0 (KeepBut w wc g none) ∧ Aside0 (Below w0.heap.size w0 wc))
   case first =>
    have H := HC15.out
    clear HC15
    by_cases c16 : x5_1 > 0
    ·rw [if_pos c16] at H
     have c16b0 : decide (0 < x5_1) = true := decide_eq_true c16
     clear c16
     (first | rw [c16b0] | (simp only [i64_w, i32_w]; rw [c16b0]) | skip)
     have H' := Aside0.mk H
     clear H
     go_wp2
     go_meet
     case rel => exact ⟨_, (x4_1), q133_, H', ⟨by have := HK1.out; first | omega | exact Nat.le_refl _⟩, ⟨q116_⟩, ⟨q117_⟩, ⟨q48_⟩, ⟨q53_⟩, ⟨q41_⟩⟩
    ·rw [if_neg c16] at H
     have c16b0 : decide (0 < x5_1) = false := decide_eq_false c16
     clear c16
     (first | rw [c16b0] | (simp only [i64_w, i32_w]; rw [c16b0]) | skip)
     have H' := Aside0.mk H
     clear H
     go_wp2
     go_meet
     case rel => exact ⟨_, (false), q133_, H', ⟨by have := HK1.out; first | omega | exact Nat.le_refl _⟩, ⟨q116_⟩, ⟨q117_⟩, ⟨q48_⟩, ⟨q53_⟩, ⟨q41_⟩⟩
   case rest =>
    clear HC15
    try clear c1
    try clear p2 p2
    try clear c3
    try clear c5
    try clear c6
    try clear p6 p6
    try clear c11
    try clear c12
    try clear c16
    try clear c16b0
    try clear hcz13_0 hcz13_1 hcz13_2 hcz13_3 hcz13_4 hcz13_5 hcz13_6
    try clear hfz13_0 hfz13_1 hfz13_2 hfz13_3 hfz13_4 hfz13_5 hfz13_6
    obtain ⟨kq, x20_14, rfl, HA, HJ14, BK433, BK446, HI0, HK, HB⟩ := hcut
    cases kq with
    | zero => exact absurd HA.out (by simp [spec_l1Rd_cart.j1])
    | succ kj14 =>
     have H := HA.out
     clear HA
     simp only [spec_l1Rd_cart.j1] at H
     by_cases c17 : x20_14 = true
     ·subst c17
      replace H : ((spec_l1Rd_addr.f kj14 s0_0 x1001_1).bind fun bt449 => ((spec_l1Rd_byte.f s0_0 bt449.2).bind fun bt451 => ((spec_CartWrite.f kj14 x447000_1 x447001_1 x447002_1 x447003_1 x447004_1 x447005_1 x447006_1 bt449.1 bt451.1).bind fun bt453 => (spec_l1Rd_cart.l0 kj14 bt453.2.2.2.2.2.2.2 (wrap64 (x5_1 - 1)) s0_0 bt451.2 bt453.1 bt453.2.1 bt453.2.2.1 bt453.2.2.2.1 bt453.2.2.2.2.1 bt453.2.2.2.2.2.1 bt453.2.2.2.2.2.2.1)))) = some (r1, r2, r3, r4, r5, r6, r7, r8) := by rw [if_pos rfl] at H; exact H
      replace H := Option.bind_eq_some_iff.mp H
      obtain ⟨⟨t449, t450⟩, A180, H⟩ := H
      replace H : ((spec_l1Rd_byte.f s0_0 t450).bind fun bt451 => ((spec_CartWrite.f kj14 x447000_1 x447001_1 x447002_1 x447003_1 x447004_1 x447005_1 x447006_1 t449 bt451.1).bind fun bt453 => (spec_l1Rd_cart.l0 kj14 bt453.2.2.2.2.2.2.2 (wrap64 (x5_1 - 1)) s0_0 bt451.2 bt453.1 bt453.2.1 bt453.2.2.1 bt453.2.2.2.1 bt453.2.2.2.2.1 bt453.2.2.2.2.2.1 bt453.2.2.2.2.2.2.1))) = some (r1, r2, r3, r4, r5, r6, r7, r8) := H
      have A18 := Aside0.mk A180
      clear A180
      replace H := Option.bind_eq_some_iff.mp H
      obtain ⟨⟨t451, t452⟩, A190, H⟩ := H
      replace H : ((spec_CartWrite.f kj14 x447000_1 x447001_1 x447002_1 x447003_1 x447004_1 x447005_1 x447006_1 t449 t451).bind fun bt453 => (spec_l1Rd_cart.l0 kj14 bt453.2.2.2.2.2.2.2 (wrap64 (x5_1 - 1)) s0_0 t452 bt453.1 bt453.2.1 bt453.2.2.1 bt453.2.2.2.1 bt453.2.2.2.2.1 bt453.2.2.2.2.2.1 bt453.2.2.2.2.2.2.1)) = some (r1, r2, r3, r4, r5, r6, r7, r8) := H
      have A19 := Aside0.mk A190
      clear A190
      replace H := Option.bind_eq_some_iff.mp H
      obtain ⟨⟨t453, t454, t455, t456, t457, t458, t459, t460⟩, A200, H⟩ := H
      replace H : (spec_l1Rd_cart.l0 kj14 t460 (wrap64 (x5_1 - 1)) s0_0 t452 t453 t454 t455 t456 t457 t458 t459) = some (r1, r2, r3, r4, r5, r6, r7, r8) := H
      have A20 := Aside0.mk A200
      clear A200
      have H' := Aside0.mk H
      clear H
      try go_wp2
      have n0_ := Aside0.mk (blk_drew BK433.out)
      have n1_ := Aside0.mk (blk_drew BK446.out)
      have n2_ := Aside0.mk (IsS78.drew HI0.out)
      have n3_ := Aside0.mk (keep_drew HK.out)
      have n4_ := Aside0.mk (below_drew1 HB.out)
      clear BK433
      clear BK446
      clear HI0
      clear HK
      clear HB
      have BK433 := n0_
      have BK446 := n1_
      have HI0 := n2_
      have HK := n3_
      have HB := n4_
      clear n0_ n1_ n2_ n3_ n4_
      refine start_ (n := 11) (S := fun w' => w'.cell? ⟨gb446, 0, none⟩ = some (.string x447000_1) ∧ w'.cell? ⟨gb446, 1, none⟩ = some (.int .i64 x447001_1) ∧ w'.cell? ⟨gb446, 2, none⟩ = some (.int .i64 x447002_1) ∧ w'.cell? ⟨gb446, 3, none⟩ = some (.string x447003_1) ∧ w'.cell? ⟨gb446, 4, none⟩ = some (.int .i64 x447004_1) ∧ w'.cell? ⟨gb446, 5, none⟩ = some (.bool x447005_1) ∧ w'.cell? ⟨gb446, 6, none⟩ = some (.int .i64 x447006_1)) (ds := [9]) #[false, false, false, false, false, false, false, false, false, false, false] (by kernel_rfl) rfl rfl ⟨(blk_cell BK446.out 0).trans rfl, (blk_cell BK446.out 1).trans rfl, (blk_cell BK446.out 2).trans rfl, (blk_cell BK446.out 3).trans rfl, (blk_cell BK446.out 4).trans rfl, (blk_cell BK446.out 5).trans rfl, (blk_cell BK446.out 6).trans rfl⟩ (fun hHeld => ?_); refine with_tabW spec_l1Rd_cart.tab5 spec_l1Rd_cart.bits5 (fun HT_ HW_ => ?_)
      generalize wc.drew = w21 at BK433 BK446 HI0 HK HB hHeld ⊢
      refine pure_ (i := 1) (N := some 25) (v := ?_) (a' := ?_) #[false, true, false, false, false, false, false, false, false, false, false] rfl rfl (any_of HT_.out (by kernel_rfl)) (fun _ _ _ h => h) (Or.inl ⟨by rfl, ?_⟩) ?_ ?_
      rotate_left
      ·intro w'
       go_simp
       with_reducible rfl
      rotate_left
      ·simp only [Act.put, List.setIfInBounds_toArray, List.set_cons_zero, List.set_cons_succ, i64_w, i32_w]
       rfl
      refine pure_ (i := 3) (N := some 27) (v := ?_) (a' := ?_) #[false, true, false, true, false, false, false, false, false, false, false] rfl rfl (any_of HT_.out (by kernel_rfl)) (fun _ _ _ h => h) (Or.inl ⟨by rfl, ?_⟩) ?_ ?_
      rotate_left
      ·intro w'
       go_simp
       with_reducible rfl
      rotate_left
      ·simp only [Act.put, List.setIfInBounds_toArray, List.set_cons_zero, List.set_cons_succ, i64_w, i32_w]
       rfl
      refine take_ (i := 0) (N := some 24) (v := ?_) (a' := ?_) #[true, true, false, true, false, false, false, false, false, false, false] rfl rfl (take_ofW HT_.out HW_.out (by kernel_rfl)) (fun _ _ _ h => h) (Or.inl ⟨by rfl, ?_⟩) hHeld ?_ ?_
      rotate_left
      ·rintro w' ⟨s0, s1, s2, s3, s4, s5, s6⟩
       go_simp
       with_reducible rfl
      rotate_left
      ·simp only [Act.put, List.setIfInBounds_toArray, List.set_cons_zero, List.set_cons_succ, i64_w, i32_w]
       rfl
      refine one_ (i := 2) (N := some 26) #[true, true, true, true, false, false, false, false, false, false, false] rfl rfl (one_of HT_.out (by kernel_rfl)) (by decide) (fun K hK => ?_)
      refine goes_ Try.func55 (by kernel_rfl) rfl #[.pointer (some ⟨g, 0, none⟩)] (by rfl) rfl rfl q101_ ?_
      with_reducible refine (spec_l1Rd_addr.calls kj14 g s0_0 x1001_1 t449 t450 w0 _ ?side1 ?side2 A18.out).mono ?_
      (case side1 => exact q164_)
      (case side2 => exact q160_)
      rintro e w22 ⟨rfl, hi, hb, hk⟩
      refine ⟨_, rfl, ?_⟩
      have n0_ := Aside0.mk (KeepBut.blk hk (g' := gb433) (o := .cells #[.string (⟨#[]⟩ : ByteArray), .int .i64 0, .int .i64 0, .string (⟨#[]⟩ : ByteArray), .int .i64 0, .bool false, .int .i64 0] 32 (0, 0)) q116_ NB433_0.out (by simp))
      have n1_ := Aside0.mk (KeepBut.blk hk (g' := gb446) (o := .cells #[.string x447000_1, .int .i64 x447001_1, .int .i64 x447002_1, .string x447003_1, .int .i64 x447004_1, .bool x447005_1, .int .i64 x447006_1] 32 (0, 0)) q117_ NB446_0.out (by simp))
      have n2_ := Aside0.mk (KeepBut.trans q53_ hk (.inl rfl))
      have n3_ := Aside0.mk (hb)
      have n4_ := Aside0.mk (hi)
      clear BK433
      clear BK446
      clear HK
      clear HB
      clear HI0
      have BK433 := n0_
      have BK446 := n1_
      have HK := n2_
      have HB := n3_
      have HI0 := n4_
      clear n0_ n1_ n2_ n3_ n4_
      (try clear hb)
      (try clear hb2)
      (try clear hk)
      (try clear hi)
      refine hK.out _ _ ⟨(blk_cell BK446.out 0).trans rfl, (blk_cell BK446.out 1).trans rfl, (blk_cell BK446.out 2).trans rfl, (blk_cell BK446.out 3).trans rfl, (blk_cell BK446.out 4).trans rfl, (blk_cell BK446.out 5).trans rfl, (blk_cell BK446.out 6).trans rfl⟩ (fun hHeld => ?_)
      clear hK K
      refine norm_ (a' := ?_) ?_ ?_
      rotate_left
      ·show Act.put _ (some 26) _ = _
       simp only [Act.put, List.setIfInBounds_toArray, List.set_cons_zero, List.set_cons_succ, i64_w, i32_w]
       rfl
      refine one_ (i := 4) (N := some 28) #[true, true, true, true, true, false, false, false, false, false, false] rfl rfl (one_of HT_.out (by kernel_rfl)) (by decide) (fun K hK => ?_)
      refine goes_ Try.func58 (by kernel_rfl) rfl #[.pointer (some ⟨g, 0, none⟩)] (by rfl) rfl rfl q101_ ?_
      with_reducible refine (spec_l1Rd_byte.calls g s0_0 t450 t451 t452 w0 _ ?side1 ?side2 A19.out).mono ?_
      (case side1 => exact q164_)
      (case side2 => exact q160_)
      rintro e w23 ⟨rfl, hi, hb, hk⟩
      refine ⟨_, rfl, ?_⟩
      have n0_ := Aside0.mk (KeepBut.blk hk (g' := gb433) (o := .cells #[.string (⟨#[]⟩ : ByteArray), .int .i64 0, .int .i64 0, .string (⟨#[]⟩ : ByteArray), .int .i64 0, .bool false, .int .i64 0] 32 (0, 0)) q116_ NB433_0.out (by simp))
      have n1_ := Aside0.mk (KeepBut.blk hk (g' := gb446) (o := .cells #[.string x447000_1, .int .i64 x447001_1, .int .i64 x447002_1, .string x447003_1, .int .i64 x447004_1, .bool x447005_1, .int .i64 x447006_1] 32 (0, 0)) q117_ NB446_0.out (by simp))
      have n2_ := Aside0.mk (KeepBut.trans q53_ hk (.inl rfl))
      have n3_ := Aside0.mk (hb)
      have n4_ := Aside0.mk (hi)
      clear BK433
      clear BK446
      clear HK
      clear HB
      clear HI0
      have BK433 := n0_
      have BK446 := n1_
      have HK := n2_
      have HB := n3_
      have HI0 := n4_
      clear n0_ n1_ n2_ n3_ n4_
      (try clear hb)
      (try clear hb2)
      (try clear hk)
      (try clear hi)
      refine hK.out _ _ ⟨(blk_cell BK446.out 0).trans rfl, (blk_cell BK446.out 1).trans rfl, (blk_cell BK446.out 2).trans rfl, (blk_cell BK446.out 3).trans rfl, (blk_cell BK446.out 4).trans rfl, (blk_cell BK446.out 5).trans rfl, (blk_cell BK446.out 6).trans rfl⟩ (fun hHeld => ?_)
      clear hK K
      refine norm_ (a' := ?_) ?_ ?_
      rotate_left
      ·show Act.put _ (some 28) _ = _
       simp only [Act.put, List.setIfInBounds_toArray, List.set_cons_zero, List.set_cons_succ, i64_w, i32_w]
       rfl
      refine one_ (i := 5) (N := some 29) #[true, true, true, true, true, true, false, false, false, false, false] rfl rfl (one_of HT_.out (by kernel_rfl)) (by decide) (fun K hK => ?_)
      refine goes_ Try.func19 (by kernel_rfl) rfl #[.agg #[.string x447000_1, .int .i64 x447001_1, .int .i64 x447002_1, .string x447003_1, .int .i64 x447004_1, .bool x447005_1, .int .i64 x447006_1], .int .i64 t449, .int .i64 t451] (by rfl) rfl rfl q101_ ?_
      with_reducible refine (spec_CartWrite.calls kj14 x447000_1 x447001_1 x447002_1 x447003_1 x447004_1 x447005_1 x447006_1 t449 t451 t453 t454 t455 t456 t457 t458 t459 t460 _ A20.out).mono ?_
      rintro e w24 ⟨rfl, hb⟩
      refine ⟨_, rfl, ?_⟩
      have n0_ := Aside0.mk (blk_below (g := gb433) (o := .cells #[.string (⟨#[]⟩ : ByteArray), .int .i64 0, .int .i64 0, .string (⟨#[]⟩ : ByteArray), .int .i64 0, .bool false, .int .i64 0] 32 (0, 0)) q116_ hb)
      have n1_ := Aside0.mk (blk_below (g := gb446) (o := .cells #[.string x447000_1, .int .i64 x447001_1, .int .i64 x447002_1, .string x447003_1, .int .i64 x447004_1, .bool x447005_1, .int .i64 x447006_1] 32 (0, 0)) q117_ hb)
      have n2_ := Aside0.mk (IsS78.below q48_ hb)
      have n3_ := Aside0.mk (KeepBut.trans q53_ (KeepBut.of_below hb g none) (.inl rfl))
      have n4_ := Aside0.mk (below_step q41_ hb)
      clear BK433
      clear BK446
      clear HI0
      clear HK
      clear HB
      have BK433 := n0_
      have BK446 := n1_
      have HI0 := n2_
      have HK := n3_
      have HB := n4_
      clear n0_ n1_ n2_ n3_ n4_
      (try clear hb)
      (try clear hb2)
      (try clear hk)
      (try clear hi)
      refine hK.out _ _ ⟨(blk_cell BK446.out 0).trans rfl, (blk_cell BK446.out 1).trans rfl, (blk_cell BK446.out 2).trans rfl, (blk_cell BK446.out 3).trans rfl, (blk_cell BK446.out 4).trans rfl, (blk_cell BK446.out 5).trans rfl, (blk_cell BK446.out 6).trans rfl⟩ (fun hHeld => ?_)
      clear hK K
      refine norm_ (a' := ?_) ?_ ?_
      rotate_left
      ·show Act.put _ (some 29) _ = _
       simp only [Act.put, List.setIfInBounds_toArray, List.set_cons_zero, List.set_cons_succ, i64_w, i32_w]
       rfl
      refine pure_ (i := 6) (N := some 23) (v := ?_) (a' := ?_) #[true, true, true, true, true, true, true, false, false, false, false] rfl rfl (any_of HT_.out (by kernel_rfl)) (fun _ _ _ h => h) (Or.inl ⟨by rfl, ?_⟩) ?_ ?_
      rotate_left
      ·intro w'
       go_simp
       with_reducible rfl
      rotate_left
      ·simp only [Act.put, List.setIfInBounds_toArray, List.set_cons_zero, List.set_cons_succ, i64_w, i32_w]
       rfl
      refine pure_ (i := 7) (N := some 30) (v := ?_) (a' := ?_) #[true, true, true, true, true, true, true, true, false, false, false] rfl rfl (any_of HT_.out (by kernel_rfl)) (fun _ _ _ h => h) (Or.inl ⟨by rfl, ?_⟩) ?_ ?_
      rotate_left
      ·intro w'
       go_simp
       with_reducible rfl
      rotate_left
      ·simp only [Act.put, List.setIfInBounds_toArray, List.set_cons_zero, List.set_cons_succ, i64_w, i32_w]
       rfl
      refine pure_ (i := 8) (N := some 31) (v := ?_) (a' := ?_) #[true, true, true, true, true, true, true, true, true, false, false] rfl rfl (any_of HT_.out (by kernel_rfl)) (fun _ _ _ h => h) (Or.inl ⟨by rfl, ?_⟩) ?_ ?_
      rotate_left
      ·intro w'
       go_simp
       with_reducible rfl
      rotate_left
      ·simp only [Act.put, List.setIfInBounds_toArray, List.set_cons_zero, List.set_cons_succ, i64_w, i32_w]
       rfl
      refine last_ (i := 9) (N := none) #[true, true, true, true, true, true, true, true, true, true, false] rfl rfl (one_of HT_.out (by kernel_rfl)) (by decide) (fun K hK => ?_)
      have hs25 : w24.cell? ⟨gb446, 0, none⟩ = some (.string x447000_1) := bz_ BK446 0
      have hfs25 := blk_frozen BK446.out 0
      have hns25_0 := NB433_446.out
      have hms25_0 := NB446_433.out
      have hs26 : w24.cell? ⟨gb446, 1, none⟩ = some (.int .i64 x447001_1) := bz_ BK446 1
      have hfs26 := blk_frozen BK446.out 1
      have hns26_0 := NB433_446.out
      have hms26_0 := NB446_433.out
      have hs27 : w24.cell? ⟨gb446, 2, none⟩ = some (.int .i64 x447002_1) := bz_ BK446 2
      have hfs27 := blk_frozen BK446.out 2
      have hns27_0 := NB433_446.out
      have hms27_0 := NB446_433.out
      have hs28 : w24.cell? ⟨gb446, 3, none⟩ = some (.string x447003_1) := bz_ BK446 3
      have hfs28 := blk_frozen BK446.out 3
      have hns28_0 := NB433_446.out
      have hms28_0 := NB446_433.out
      have hs29 : w24.cell? ⟨gb446, 4, none⟩ = some (.int .i64 x447004_1) := bz_ BK446 4
      have hfs29 := blk_frozen BK446.out 4
      have hns29_0 := NB433_446.out
      have hms29_0 := NB446_433.out
      have hs30 : w24.cell? ⟨gb446, 5, none⟩ = some (.bool x447005_1) := bz_ BK446 5
      have hfs30 := blk_frozen BK446.out 5
      have hns30_0 := NB433_446.out
      have hms30_0 := NB446_433.out
      have hs31 : w24.cell? ⟨gb446, 6, none⟩ = some (.int .i64 x447006_1) := bz_ BK446 6
      have hfs31 := blk_frozen BK446.out 6
      have hns31_0 := NB433_446.out
      have hms31_0 := NB446_433.out
      refine skip_ (w1 := ?_) (by rfl) rfl ?_ ?_
      rotate_left
      ·go_simp
       rfl
      refine hK.out _ _ ?_
      clear hK K
      refine pure_ (i := 10) (N := some 4) (v := ?_) (a' := ?_) #[true, true, true, true, true, true, true, true, true, true, true] rfl rfl (any_of HT_.out (by kernel_rfl)) (fun _ _ _ h => h) (Or.inl ⟨by rfl, ?_⟩) ?_ ?_
      rotate_left
      ·intro w'
       go_simp
       with_reducible rfl
      rotate_left
      ·simp only [Act.put, List.setIfInBounds_toArray, List.set_cons_zero, List.set_cons_succ, i64_w, i32_w]
       rfl
      refine done_ (done_of HT_.out (by kernel_rfl)) ?_
      try go_wp2
      go_roundg kj14
      case measure => have := HK1.out; have := HJ14.out; omega
      case rel => exact ⟨(t460), (wrap64 (x5_1 - 1)), (t452), (t453), (t454), (t455), (t456), (t457), (t458), (t459), q133_, q133_, H', ⟨by have := HK1.out; have := HJ14.out; omega⟩, ⟨q9_⟩, ⟨by (with_reducible repeat (first | refine blk_drewN ?_ _ | refine blk_drew ?_ | refine blk_alloc ?_ _)); refine blk_put (cs := #[.string t453, .int .i64 t454, .int .i64 t455, .string t456, .int .i64 t457, .bool t458, .int .i64 x447006_1]) ?_ 6 _ rfl; (with_reducible repeat (first | refine blk_drewN ?_ _ | refine blk_drew ?_ | refine blk_alloc ?_ _)); refine blk_put (cs := #[.string t453, .int .i64 t454, .int .i64 t455, .string t456, .int .i64 t457, .bool x447005_1, .int .i64 x447006_1]) ?_ 5 _ rfl; (with_reducible repeat (first | refine blk_drewN ?_ _ | refine blk_drew ?_ | refine blk_alloc ?_ _)); refine blk_put (cs := #[.string t453, .int .i64 t454, .int .i64 t455, .string t456, .int .i64 x447004_1, .bool x447005_1, .int .i64 x447006_1]) ?_ 4 _ rfl; (with_reducible repeat (first | refine blk_drewN ?_ _ | refine blk_drew ?_ | refine blk_alloc ?_ _)); refine blk_put (cs := #[.string t453, .int .i64 t454, .int .i64 t455, .string x447003_1, .int .i64 x447004_1, .bool x447005_1, .int .i64 x447006_1]) ?_ 3 _ rfl; (with_reducible repeat (first | refine blk_drewN ?_ _ | refine blk_drew ?_ | refine blk_alloc ?_ _)); refine blk_put (cs := #[.string t453, .int .i64 t454, .int .i64 x447002_1, .string x447003_1, .int .i64 x447004_1, .bool x447005_1, .int .i64 x447006_1]) ?_ 2 _ rfl; (with_reducible repeat (first | refine blk_drewN ?_ _ | refine blk_drew ?_ | refine blk_alloc ?_ _)); refine blk_put (cs := #[.string t453, .int .i64 x447001_1, .int .i64 x447002_1, .string x447003_1, .int .i64 x447004_1, .bool x447005_1, .int .i64 x447006_1]) ?_ 1 _ rfl; (with_reducible repeat (first | refine blk_drewN ?_ _ | refine blk_drew ?_ | refine blk_alloc ?_ _)); refine blk_put (cs := #[.string x447000_1, .int .i64 x447001_1, .int .i64 x447002_1, .string x447003_1, .int .i64 x447004_1, .bool x447005_1, .int .i64 x447006_1]) ?_ 0 _ rfl; (with_reducible repeat (first | refine blk_drewN ?_ _ | refine blk_drew ?_ | refine blk_alloc ?_ _)); exact BK446.out⟩, ⟨q48_⟩, ⟨q53_⟩, ⟨q41_⟩⟩
     ·replace c17 := Bool.eq_false_iff.mpr c17
      subst c17
      replace H : ((spec_l1Rd_once.f s0_0 x1001_1 30).bind fun bt461 => (if bt461.1 = true then ((spec_l1Rd_off.f kj14 s0_0 bt461.2 0 31).bind fun bt463 => (some (x447000_1, x447001_1, bt463.1, x447003_1, x447004_1, x447005_1, x447006_1, bt463.2))) else (some (x447000_1, x447001_1, x447002_1, x447003_1, x447004_1, x447005_1, x447006_1, bt461.2)))) = some (r1, r2, r3, r4, r5, r6, r7, r8) := by rw [if_neg (show ¬ (false = true) by decide)] at H; exact H
      replace H := Option.bind_eq_some_iff.mp H
      obtain ⟨⟨t461, t462⟩, A320, H⟩ := H
      replace H : (if t461 = true then ((spec_l1Rd_off.f kj14 s0_0 t462 0 31).bind fun bt463 => (some (x447000_1, x447001_1, bt463.1, x447003_1, x447004_1, x447005_1, x447006_1, bt463.2))) else (some (x447000_1, x447001_1, x447002_1, x447003_1, x447004_1, x447005_1, x447006_1, t462))) = some (r1, r2, r3, r4, r5, r6, r7, r8) := H
      have A32 := Aside0.mk A320
      clear A320
      by_cases c33 : t461 = true
      ·subst c33
       replace H : ((spec_l1Rd_off.f kj14 s0_0 t462 0 31).bind fun bt463 => (some (x447000_1, x447001_1, bt463.1, x447003_1, x447004_1, x447005_1, x447006_1, bt463.2))) = some (r1, r2, r3, r4, r5, r6, r7, r8) := by rw [if_pos rfl] at H; exact H
       replace H := Option.bind_eq_some_iff.mp H
       obtain ⟨⟨t463, t464⟩, A340, H⟩ := H
       replace H : (some (x447000_1, x447001_1, t463, x447003_1, x447004_1, x447005_1, x447006_1, t464)) = some (r1, r2, r3, r4, r5, r6, r7, r8) := H
       have A34 := Aside0.mk A340
       clear A340
       simp only [Option.some.injEq, Prod.mk.injEq] at H
       obtain ⟨rfl, rfl, rfl, rfl, rfl, rfl, rfl, rfl⟩ := H
       go_wp2_with (first | ((with_reducible refine gate_callee (f := 56) rfl ?_); refine goesL_ (some 33) rfl rfl Try.func56 (by kernel_rfl) rfl #[.pointer (some ⟨g, 0, none⟩), .int .i64 30] rfl q101_ ?_; (with_reducible refine (spec_l1Rd_once.calls g s0_0 x1001_1 30 true t462 w0 _ ?side1 ?side2 A32.out).mono ?_); (case side1 => exact q164_); (case side2 => exact q160_); rintro e w35 ⟨rfl, hi, hb, hk⟩; refine ⟨_, rfl, ?_⟩; have n0_ := Aside0.mk (KeepBut.blk hk (g' := gb433) (o := .cells #[.string (⟨#[]⟩ : ByteArray), .int .i64 0, .int .i64 0, .string (⟨#[]⟩ : ByteArray), .int .i64 0, .bool false, .int .i64 0] 32 (0, 0)) q116_ NB433_0.out (by simp)); have n1_ := Aside0.mk (KeepBut.blk hk (g' := gb446) (o := .cells #[.string x447000_1, .int .i64 x447001_1, .int .i64 x447002_1, .string x447003_1, .int .i64 x447004_1, .bool x447005_1, .int .i64 x447006_1] 32 (0, 0)) q117_ NB446_0.out (by simp)); have n2_ := Aside0.mk (KeepBut.trans q53_ hk (.inl rfl)); have n3_ := Aside0.mk (hb); have n4_ := Aside0.mk (hi); clear BK433; clear BK446; clear HK; clear HB; clear HI0; have BK433 := n0_; have BK446 := n1_; have HK := n2_; have HB := n3_; have HI0 := n4_; clear n0_ n1_ n2_ n3_ n4_; (try clear hb); (try clear hk); (try clear hi)) | ((with_reducible refine gate_callee (f := 57) rfl ?_); refine goesL_ (some 35) rfl rfl Try.func57 (by kernel_rfl) rfl #[.pointer (some ⟨g, 0, none⟩), .int .i64 0, .int .i64 31] rfl q101_ ?_; (with_reducible refine (spec_l1Rd_off.calls kj14 g s0_0 t462 0 31 t463 t464 w0 _ ?side1 ?side2 A34.out).mono ?_); (case side1 => exact q164_); (case side2 => exact q160_); rintro e w36 ⟨rfl, hi, hb, hk⟩; refine ⟨_, rfl, ?_⟩; have n0_ := Aside0.mk (KeepBut.blk hk (g' := gb433) (o := .cells #[.string (⟨#[]⟩ : ByteArray), .int .i64 0, .int .i64 0, .string (⟨#[]⟩ : ByteArray), .int .i64 0, .bool false, .int .i64 0] 32 (0, 0)) q116_ NB433_0.out (by simp)); have n1_ := Aside0.mk (KeepBut.blk hk (g' := gb446) (o := .cells #[.string x447000_1, .int .i64 x447001_1, .int .i64 x447002_1, .string x447003_1, .int .i64 x447004_1, .bool x447005_1, .int .i64 x447006_1] 32 (0, 0)) q117_ NB446_0.out (by simp)); have n2_ := Aside0.mk (KeepBut.trans q53_ hk (.inl rfl)); have n3_ := Aside0.mk (hb); have n4_ := Aside0.mk (hi); clear BK433; clear BK446; clear HK; clear HB; clear HI0; have BK433 := n0_; have BK446 := n1_; have HK := n2_; have HB := n3_; have HI0 := n4_; clear n0_ n1_ n2_ n3_ n4_; (try clear hb); (try clear hk); (try clear hi); have hnb37 := NB446_433.out; have hnc37 := NB433_446.out; have hnb38 := NB446_0.out; have hnc38 := NB0_446.out; have hcz39_0 : w36.cell? ⟨gb446, 0, none⟩ = some (.string x447000_1) := (blk_cell BK446.out 0).trans rfl; have hcz39_1 : w36.cell? ⟨gb446, 1, none⟩ = some (.int .i64 x447001_1) := (blk_cell BK446.out 1).trans rfl; have hcz39_2 : w36.cell? ⟨gb446, 2, none⟩ = some (.int .i64 x447002_1) := (blk_cell BK446.out 2).trans rfl; have hcz39_3 : w36.cell? ⟨gb446, 3, none⟩ = some (.string x447003_1) := (blk_cell BK446.out 3).trans rfl; have hcz39_4 : w36.cell? ⟨gb446, 4, none⟩ = some (.int .i64 x447004_1) := (blk_cell BK446.out 4).trans rfl; have hcz39_5 : w36.cell? ⟨gb446, 5, none⟩ = some (.bool x447005_1) := (blk_cell BK446.out 5).trans rfl; have hcz39_6 : w36.cell? ⟨gb446, 6, none⟩ = some (.int .i64 x447006_1) := (blk_cell BK446.out 6).trans rfl; have hfz39_0 := blk_frozen BK446.out 0; have hfz39_1 := blk_frozen BK446.out 1; have hfz39_2 := blk_frozen BK446.out 2; have hfz39_3 := blk_frozen BK446.out 3; have hfz39_4 := blk_frozen BK446.out 4; have hfz39_5 := blk_frozen BK446.out 5; have hfz39_6 := blk_frozen BK446.out 6; have hnb40 := NB433_0.out; have hnc40 := NB0_433.out; have hcz41_0 : w36.cell? ⟨gb433, 0, none⟩ = some (.string (⟨#[]⟩ : ByteArray)) := (blk_cell BK433.out 0).trans rfl; have hcz41_1 : w36.cell? ⟨gb433, 1, none⟩ = some (.int .i64 0) := (blk_cell BK433.out 1).trans rfl; have hcz41_2 : w36.cell? ⟨gb433, 2, none⟩ = some (.int .i64 0) := (blk_cell BK433.out 2).trans rfl; have hcz41_3 : w36.cell? ⟨gb433, 3, none⟩ = some (.string (⟨#[]⟩ : ByteArray)) := (blk_cell BK433.out 3).trans rfl; have hcz41_4 : w36.cell? ⟨gb433, 4, none⟩ = some (.int .i64 0) := (blk_cell BK433.out 4).trans rfl; have hcz41_5 : w36.cell? ⟨gb433, 5, none⟩ = some (.bool false) := (blk_cell BK433.out 5).trans rfl; have hcz41_6 : w36.cell? ⟨gb433, 6, none⟩ = some (.int .i64 0) := (blk_cell BK433.out 6).trans rfl; have hfz41_0 := blk_frozen BK433.out 0; have hfz41_1 := blk_frozen BK433.out 1; have hfz41_2 := blk_frozen BK433.out 2; have hfz41_3 := blk_frozen BK433.out 3; have hfz41_4 := blk_frozen BK433.out 4; have hfz41_5 := blk_frozen BK433.out 5; have hfz41_6 := blk_frozen BK433.out 6))
       refine bodyPost_ret (results_cell_row rfl _ _ gb433 32 #[.string x447000_1, .int .i64 x447001_1, .int .i64 t463, .string x447003_1, .int .i64 x447004_1, .bool x447005_1, .int .i64 x447006_1] (0, 0) _ rfl (by (with_reducible repeat (first | refine blk_drewN ?_ _ | refine blk_drew ?_ | refine blk_alloc ?_ _)); refine blk_put (cs := #[.string x447000_1, .int .i64 x447001_1, .int .i64 t463, .string x447003_1, .int .i64 x447004_1, .bool x447005_1, .int .i64 0]) ?_ 6 _ rfl; (with_reducible repeat (first | refine blk_drewN ?_ _ | refine blk_drew ?_ | refine blk_alloc ?_ _)); refine blk_put (cs := #[.string x447000_1, .int .i64 x447001_1, .int .i64 t463, .string x447003_1, .int .i64 x447004_1, .bool false, .int .i64 0]) ?_ 5 _ rfl; (with_reducible repeat (first | refine blk_drewN ?_ _ | refine blk_drew ?_ | refine blk_alloc ?_ _)); refine blk_put (cs := #[.string x447000_1, .int .i64 x447001_1, .int .i64 t463, .string x447003_1, .int .i64 0, .bool false, .int .i64 0]) ?_ 4 _ rfl; (with_reducible repeat (first | refine blk_drewN ?_ _ | refine blk_drew ?_ | refine blk_alloc ?_ _)); refine blk_put (cs := #[.string x447000_1, .int .i64 x447001_1, .int .i64 t463, .string (⟨#[]⟩ : ByteArray), .int .i64 0, .bool false, .int .i64 0]) ?_ 3 _ rfl; (with_reducible repeat (first | refine blk_drewN ?_ _ | refine blk_drew ?_ | refine blk_alloc ?_ _)); refine blk_put (cs := #[.string x447000_1, .int .i64 x447001_1, .int .i64 0, .string (⟨#[]⟩ : ByteArray), .int .i64 0, .bool false, .int .i64 0]) ?_ 2 _ rfl; (with_reducible repeat (first | refine blk_drewN ?_ _ | refine blk_drew ?_ | refine blk_alloc ?_ _)); refine blk_put (cs := #[.string x447000_1, .int .i64 0, .int .i64 0, .string (⟨#[]⟩ : ByteArray), .int .i64 0, .bool false, .int .i64 0]) ?_ 1 _ rfl; (with_reducible repeat (first | refine blk_drewN ?_ _ | refine blk_drew ?_ | refine blk_alloc ?_ _)); refine blk_put (cs := #[.string (⟨#[]⟩ : ByteArray), .int .i64 0, .int .i64 0, .string (⟨#[]⟩ : ByteArray), .int .i64 0, .bool false, .int .i64 0]) ?_ 0 _ rfl; (with_reducible repeat (first | refine blk_drewN ?_ _ | refine blk_drew ?_ | refine blk_alloc ?_ _)); refine blk_far ?_ NB433_446.out _; (with_reducible repeat (first | refine blk_drewN ?_ _ | refine blk_drew ?_ | refine blk_alloc ?_ _)); exact BK433.out) Try.underlying32 rfl (by kernel_rfl)) rfl ?_
       exact ⟨q103_, q48_, q41_, q53_⟩
      ·replace c33 := Bool.eq_false_iff.mpr c33
       subst c33
       replace H : (some (x447000_1, x447001_1, x447002_1, x447003_1, x447004_1, x447005_1, x447006_1, t462)) = some (r1, r2, r3, r4, r5, r6, r7, r8) := by rw [if_neg (show ¬ (false = true) by decide)] at H; exact H
       simp only [Option.some.injEq, Prod.mk.injEq] at H
       obtain ⟨rfl, rfl, rfl, rfl, rfl, rfl, rfl, rfl⟩ := H
       go_wp2_with (first | ((with_reducible refine gate_callee (f := 56) rfl ?_); refine goesL_ (some 33) rfl rfl Try.func56 (by kernel_rfl) rfl #[.pointer (some ⟨g, 0, none⟩), .int .i64 30] rfl q101_ ?_; (with_reducible refine (spec_l1Rd_once.calls g s0_0 x1001_1 30 false t462 w0 _ ?side1 ?side2 A32.out).mono ?_); (case side1 => exact q164_); (case side2 => exact q160_); rintro e w42 ⟨rfl, hi, hb, hk⟩; refine ⟨_, rfl, ?_⟩; have n0_ := Aside0.mk (KeepBut.blk hk (g' := gb433) (o := .cells #[.string (⟨#[]⟩ : ByteArray), .int .i64 0, .int .i64 0, .string (⟨#[]⟩ : ByteArray), .int .i64 0, .bool false, .int .i64 0] 32 (0, 0)) q116_ NB433_0.out (by simp)); have n1_ := Aside0.mk (KeepBut.blk hk (g' := gb446) (o := .cells #[.string x447000_1, .int .i64 x447001_1, .int .i64 x447002_1, .string x447003_1, .int .i64 x447004_1, .bool x447005_1, .int .i64 x447006_1] 32 (0, 0)) q117_ NB446_0.out (by simp)); have n2_ := Aside0.mk (KeepBut.trans q53_ hk (.inl rfl)); have n3_ := Aside0.mk (hb); have n4_ := Aside0.mk (hi); clear BK433; clear BK446; clear HK; clear HB; clear HI0; have BK433 := n0_; have BK446 := n1_; have HK := n2_; have HB := n3_; have HI0 := n4_; clear n0_ n1_ n2_ n3_ n4_; (try clear hb); (try clear hk); (try clear hi); have hnb43 := NB446_433.out; have hnc43 := NB433_446.out; have hnb44 := NB446_0.out; have hnc44 := NB0_446.out; have hcz45_0 : w42.cell? ⟨gb446, 0, none⟩ = some (.string x447000_1) := (blk_cell BK446.out 0).trans rfl; have hcz45_1 : w42.cell? ⟨gb446, 1, none⟩ = some (.int .i64 x447001_1) := (blk_cell BK446.out 1).trans rfl; have hcz45_2 : w42.cell? ⟨gb446, 2, none⟩ = some (.int .i64 x447002_1) := (blk_cell BK446.out 2).trans rfl; have hcz45_3 : w42.cell? ⟨gb446, 3, none⟩ = some (.string x447003_1) := (blk_cell BK446.out 3).trans rfl; have hcz45_4 : w42.cell? ⟨gb446, 4, none⟩ = some (.int .i64 x447004_1) := (blk_cell BK446.out 4).trans rfl; have hcz45_5 : w42.cell? ⟨gb446, 5, none⟩ = some (.bool x447005_1) := (blk_cell BK446.out 5).trans rfl; have hcz45_6 : w42.cell? ⟨gb446, 6, none⟩ = some (.int .i64 x447006_1) := (blk_cell BK446.out 6).trans rfl; have hfz45_0 := blk_frozen BK446.out 0; have hfz45_1 := blk_frozen BK446.out 1; have hfz45_2 := blk_frozen BK446.out 2; have hfz45_3 := blk_frozen BK446.out 3; have hfz45_4 := blk_frozen BK446.out 4; have hfz45_5 := blk_frozen BK446.out 5; have hfz45_6 := blk_frozen BK446.out 6; have hnb46 := NB433_0.out; have hnc46 := NB0_433.out; have hcz47_0 : w42.cell? ⟨gb433, 0, none⟩ = some (.string (⟨#[]⟩ : ByteArray)) := (blk_cell BK433.out 0).trans rfl; have hcz47_1 : w42.cell? ⟨gb433, 1, none⟩ = some (.int .i64 0) := (blk_cell BK433.out 1).trans rfl; have hcz47_2 : w42.cell? ⟨gb433, 2, none⟩ = some (.int .i64 0) := (blk_cell BK433.out 2).trans rfl; have hcz47_3 : w42.cell? ⟨gb433, 3, none⟩ = some (.string (⟨#[]⟩ : ByteArray)) := (blk_cell BK433.out 3).trans rfl; have hcz47_4 : w42.cell? ⟨gb433, 4, none⟩ = some (.int .i64 0) := (blk_cell BK433.out 4).trans rfl; have hcz47_5 : w42.cell? ⟨gb433, 5, none⟩ = some (.bool false) := (blk_cell BK433.out 5).trans rfl; have hcz47_6 : w42.cell? ⟨gb433, 6, none⟩ = some (.int .i64 0) := (blk_cell BK433.out 6).trans rfl; have hfz47_0 := blk_frozen BK433.out 0; have hfz47_1 := blk_frozen BK433.out 1; have hfz47_2 := blk_frozen BK433.out 2; have hfz47_3 := blk_frozen BK433.out 3; have hfz47_4 := blk_frozen BK433.out 4; have hfz47_5 := blk_frozen BK433.out 5; have hfz47_6 := blk_frozen BK433.out 6))
       refine bodyPost_ret (results_cell_row rfl _ _ gb433 32 #[.string x447000_1, .int .i64 x447001_1, .int .i64 x447002_1, .string x447003_1, .int .i64 x447004_1, .bool x447005_1, .int .i64 x447006_1] (0, 0) _ rfl (by (with_reducible repeat (first | refine blk_drewN ?_ _ | refine blk_drew ?_ | refine blk_alloc ?_ _)); refine blk_put (cs := #[.string x447000_1, .int .i64 x447001_1, .int .i64 x447002_1, .string x447003_1, .int .i64 x447004_1, .bool x447005_1, .int .i64 0]) ?_ 6 _ rfl; (with_reducible repeat (first | refine blk_drewN ?_ _ | refine blk_drew ?_ | refine blk_alloc ?_ _)); refine blk_put (cs := #[.string x447000_1, .int .i64 x447001_1, .int .i64 x447002_1, .string x447003_1, .int .i64 x447004_1, .bool false, .int .i64 0]) ?_ 5 _ rfl; (with_reducible repeat (first | refine blk_drewN ?_ _ | refine blk_drew ?_ | refine blk_alloc ?_ _)); refine blk_put (cs := #[.string x447000_1, .int .i64 x447001_1, .int .i64 x447002_1, .string x447003_1, .int .i64 0, .bool false, .int .i64 0]) ?_ 4 _ rfl; (with_reducible repeat (first | refine blk_drewN ?_ _ | refine blk_drew ?_ | refine blk_alloc ?_ _)); refine blk_put (cs := #[.string x447000_1, .int .i64 x447001_1, .int .i64 x447002_1, .string (⟨#[]⟩ : ByteArray), .int .i64 0, .bool false, .int .i64 0]) ?_ 3 _ rfl; (with_reducible repeat (first | refine blk_drewN ?_ _ | refine blk_drew ?_ | refine blk_alloc ?_ _)); refine blk_put (cs := #[.string x447000_1, .int .i64 x447001_1, .int .i64 0, .string (⟨#[]⟩ : ByteArray), .int .i64 0, .bool false, .int .i64 0]) ?_ 2 _ rfl; (with_reducible repeat (first | refine blk_drewN ?_ _ | refine blk_drew ?_ | refine blk_alloc ?_ _)); refine blk_put (cs := #[.string x447000_1, .int .i64 0, .int .i64 0, .string (⟨#[]⟩ : ByteArray), .int .i64 0, .bool false, .int .i64 0]) ?_ 1 _ rfl; (with_reducible repeat (first | refine blk_drewN ?_ _ | refine blk_drew ?_ | refine blk_alloc ?_ _)); refine blk_put (cs := #[.string (⟨#[]⟩ : ByteArray), .int .i64 0, .int .i64 0, .string (⟨#[]⟩ : ByteArray), .int .i64 0, .bool false, .int .i64 0]) ?_ 0 _ rfl; (with_reducible repeat (first | refine blk_drewN ?_ _ | refine blk_drew ?_ | refine blk_alloc ?_ _)); exact BK433.out) Try.underlying32 rfl (by kernel_rfl)) rfl ?_
       exact ⟨q103_, q48_, q41_, q53_⟩
def spec_DrawCartWrite.f (k : Nat) (l0 : List Int) : Option (ByteArray × Int × Int × ByteArray × Int × Bool × Int × Int × Int) := (spec_l1Open.f l0).bind fun bt466 => ((spec_l1Rd_cart.f k bt466.1 bt466.2).bind fun bt469 => ((spec_l1Rd_addr.f k bt466.1 bt469.2.2.2.2.2.2.2).bind fun bt478 => ((spec_l1Rd_once.f bt466.1 bt478.2 20).bind fun bt480 => (if bt480.1 = true then ((spec_l1Rd_off.f k bt466.1 bt480.2 0 255).bind fun bt482 => (some (bt469.1, bt469.2.1, bt469.2.2.1, bt469.2.2.2.1, bt469.2.2.2.2.1, bt469.2.2.2.2.2.1, bt469.2.2.2.2.2.2.1, bt478.1, bt482.1))) else ((spec_l1Rd_byte.f bt466.1 bt480.2).bind fun bt484 => (some (bt469.1, bt469.2.1, bt469.2.2.1, bt469.2.2.2.1, bt469.2.2.2.2.1, bt469.2.2.2.2.2.1, bt469.2.2.2.2.2.2.1, bt478.1, bt484.1)))))))
theorem spec_DrawCartWrite.mono : ∀ a0 k, LeO (spec_DrawCartWrite.f k a0) (spec_DrawCartWrite.f (k + 1) a0) := by
 intro a0 k
 unfold spec_DrawCartWrite.f
 repeat' first
   | (with_reducible first | exact spec_l1Rd_addr.mono _ _ _ | exact spec_l1Rd_cart.mono _ _ _ | exact spec_l1Rd_off.mono _ _ _ _ _ | exact LeO.refl _ | exact LeO.none _ | refine LeO.ite ?_ ?_ | refine LeO.bind ?_ (fun _ => ?_))
   | exact spec_l1Rd_addr.mono _ _ _
   | exact spec_l1Rd_cart.mono _ _ _
   | exact spec_l1Rd_off.mono _ _ _ _ _
   | exact LeO.none _
   | refine LeO.ite ?_ ?_
   | refine LeO.bind ?_ (fun _ => ?_)
theorem spec_DrawCartWrite.calls (k : Nat) (A0 : Option Addr) (c0 : Nat) (l0 : List Int) (r1 : ByteArray) (r2 : Int) (r3 : Int) (r4 : ByteArray) (r5 : Int) (r6 : Bool) (r7 : Int) (r8 : Int) (r9 : Int) (w : World) (hr0 : Kd.C (Kd.int .u8) w A0 l0.length l0) (hc0 : l0.length ≤ c0) (h : spec_DrawCartWrite.f k l0 = some (r1, r2, r3, r4, r5, r6, r7, r8, r9)) :
  Calls Try.prog 17 #[.slice A0 l0.length c0] w fun e w' => e = .returned (.tuple #[.agg #[.string r1, .int .i64 r2, .int .i64 r3, .string r4, .int .i64 r5, .bool r6, .int .i64 r7], .int .i64 r8, .int .i64 r9]) ∧ Below w.heap.size w w' := by
 have hu32 := Try.underlying32
 have HR0 := Aside0.mk hr0
 have HC0 := Aside0.mk hc0
 clear hr0 hc0
 have HB := Aside0.mk (Below.refl w.heap.size w)
 have H : ((spec_l1Open.f l0).bind fun bt466 => ((spec_l1Rd_cart.f k bt466.1 bt466.2).bind fun bt469 => ((spec_l1Rd_addr.f k bt466.1 bt469.2.2.2.2.2.2.2).bind fun bt478 => ((spec_l1Rd_once.f bt466.1 bt478.2 20).bind fun bt480 => (if bt480.1 = true then ((spec_l1Rd_off.f k bt466.1 bt480.2 0 255).bind fun bt482 => (some (bt469.1, bt469.2.1, bt469.2.2.1, bt469.2.2.2.1, bt469.2.2.2.2.1, bt469.2.2.2.2.2.1, bt469.2.2.2.2.2.2.1, bt478.1, bt482.1))) else ((spec_l1Rd_byte.f bt466.1 bt480.2).bind fun bt484 => (some (bt469.1, bt469.2.1, bt469.2.2.1, bt469.2.2.2.1, bt469.2.2.2.2.1, bt469.2.2.2.2.2.1, bt469.2.2.2.2.2.2.1, bt478.1, bt484.1)))))))) = some (r1, r2, r3, r4, r5, r6, r7, r8, r9) := h
 clear h
 replace H := Option.bind_eq_some_iff.mp H
 obtain ⟨⟨t466, t467⟩, A20, H⟩ := H
 replace H : ((spec_l1Rd_cart.f k t466 t467).bind fun bt469 => ((spec_l1Rd_addr.f k t466 bt469.2.2.2.2.2.2.2).bind fun bt478 => ((spec_l1Rd_once.f t466 bt478.2 20).bind fun bt480 => (if bt480.1 = true then ((spec_l1Rd_off.f k t466 bt480.2 0 255).bind fun bt482 => (some (bt469.1, bt469.2.1, bt469.2.2.1, bt469.2.2.2.1, bt469.2.2.2.2.1, bt469.2.2.2.2.2.1, bt469.2.2.2.2.2.2.1, bt478.1, bt482.1))) else ((spec_l1Rd_byte.f t466 bt480.2).bind fun bt484 => (some (bt469.1, bt469.2.1, bt469.2.2.1, bt469.2.2.2.1, bt469.2.2.2.2.1, bt469.2.2.2.2.2.1, bt469.2.2.2.2.2.2.1, bt478.1, bt484.1))))))) = some (r1, r2, r3, r4, r5, r6, r7, r8, r9) := H
 have A2 := Aside0.mk A20
 clear A20
 replace H := Option.bind_eq_some_iff.mp H
 obtain ⟨⟨t469, t470, t471, t472, t473, t474, t475, t476⟩, A30, H⟩ := H
 replace H : ((spec_l1Rd_addr.f k t466 t476).bind fun bt478 => ((spec_l1Rd_once.f t466 bt478.2 20).bind fun bt480 => (if bt480.1 = true then ((spec_l1Rd_off.f k t466 bt480.2 0 255).bind fun bt482 => (some (t469, t470, t471, t472, t473, t474, t475, bt478.1, bt482.1))) else ((spec_l1Rd_byte.f t466 bt480.2).bind fun bt484 => (some (t469, t470, t471, t472, t473, t474, t475, bt478.1, bt484.1)))))) = some (r1, r2, r3, r4, r5, r6, r7, r8, r9) := H
 have A3 := Aside0.mk A30
 clear A30
 replace H := Option.bind_eq_some_iff.mp H
 obtain ⟨⟨t478, t479⟩, A40, H⟩ := H
 replace H : ((spec_l1Rd_once.f t466 t479 20).bind fun bt480 => (if bt480.1 = true then ((spec_l1Rd_off.f k t466 bt480.2 0 255).bind fun bt482 => (some (t469, t470, t471, t472, t473, t474, t475, t478, bt482.1))) else ((spec_l1Rd_byte.f t466 bt480.2).bind fun bt484 => (some (t469, t470, t471, t472, t473, t474, t475, t478, bt484.1))))) = some (r1, r2, r3, r4, r5, r6, r7, r8, r9) := H
 have A4 := Aside0.mk A40
 clear A40
 replace H := Option.bind_eq_some_iff.mp H
 obtain ⟨⟨t480, t481⟩, A50, H⟩ := H
 replace H : (if t480 = true then ((spec_l1Rd_off.f k t466 t481 0 255).bind fun bt482 => (some (t469, t470, t471, t472, t473, t474, t475, t478, bt482.1))) else ((spec_l1Rd_byte.f t466 t481).bind fun bt484 => (some (t469, t470, t471, t472, t473, t474, t475, t478, bt484.1)))) = some (r1, r2, r3, r4, r5, r6, r7, r8, r9) := H
 have A5 := Aside0.mk A50
 clear A50
 by_cases c6 : t480 = true
 ·subst c6
  replace H : ((spec_l1Rd_off.f k t466 t481 0 255).bind fun bt482 => (some (t469, t470, t471, t472, t473, t474, t475, t478, bt482.1))) = some (r1, r2, r3, r4, r5, r6, r7, r8, r9) := by rw [if_pos rfl] at H; exact H
  replace H := Option.bind_eq_some_iff.mp H
  obtain ⟨⟨t482, t483⟩, A70, H⟩ := H
  replace H : (some (t469, t470, t471, t472, t473, t474, t475, t478, t482)) = some (r1, r2, r3, r4, r5, r6, r7, r8, r9) := H
  have A7 := Aside0.mk A70
  clear A70
  simp only [Option.some.injEq, Prod.mk.injEq] at H
  obtain ⟨rfl, rfl, rfl, rfl, rfl, rfl, rfl, rfl, rfl⟩ := H
  go_enter Try.func17, Try.ntmps17
  try go_wp2_with (first | ((with_reducible refine gate_dst (N := 2) rfl ?_); refine box_event ?hg (N := 2) ?hd (cs := #[.string (⟨#[]⟩ : ByteArray), .int .i64 0, .int .i64 0, .string (⟨#[]⟩ : ByteArray), .int .i64 0, .bool false, .int .i64 0]) (t := 32) ?hr ?_; (case hd => rfl); (case hg => rfl); (case hr => exact q175_); intro gb465 hg w8 hbox hb; have n0_ := Aside0.mk (below_step q102_ hb); have n1_ := Aside0.mk (hbox); have n2_ := Aside0.mk ((q80_ : w.heap.size ≤ gb465)); have n3_ := Aside0.mk ((q80_ : w.heap.size ≤ gb465)); clear HB; have HB := n0_; have BK465 := n1_; have GW465 := n2_; have GE465 := n3_; clear n0_ n1_ n2_ n3_; clear hb hbox hg) | ((with_reducible refine gate_callee (f := 36) rfl ?_); refine goesL_ (some 9) rfl rfl Try.func36 (by kernel_rfl) rfl #[.slice A0 l0.length c0] rfl q101_ ?_; (with_reducible refine (spec_l1Open.calls _ _ l0 t466 t467 w _ ?side1 ?side2 ?side3 A2.out).mono ?_); (case side1 => exact q172_); (case side2 => exact HR0.out); (case side3 => exact HC0.out); rintro e w9 ⟨g468, rfl, hi, hb, hb2⟩; refine ⟨_, rfl, ?_⟩; have n0_ := Aside0.mk (blk_below (g := gb465) (o := .cells #[.string (⟨#[]⟩ : ByteArray), .int .i64 0, .int .i64 0, .string (⟨#[]⟩ : ByteArray), .int .i64 0, .bool false, .int .i64 0] 32 (0, 0)) q118_ hb2); have n1_ := Aside0.mk (hb); have n2_ := Aside0.mk (hi); have n3_ := Aside0.mk (IsS78.ne_blk hi (blk_below (g := gb465) (o := .cells #[.string (⟨#[]⟩ : ByteArray), .int .i64 0, .int .i64 0, .string (⟨#[]⟩ : ByteArray), .int .i64 0, .bool false, .int .i64 0] 32 (0, 0)) q118_ hb2) (by decide)); have n4_ := Aside0.mk (Ne.symm (IsS78.ne_blk hi (blk_below (g := gb465) (o := .cells #[.string (⟨#[]⟩ : ByteArray), .int .i64 0, .int .i64 0, .string (⟨#[]⟩ : ByteArray), .int .i64 0, .bool false, .int .i64 0] 32 (0, 0)) q118_ hb2) (by decide))); clear BK465; clear HB; have BK465 := n0_; have HB := n1_; have HI468 := n2_; have NB468_465 := n3_; have NB465_468 := n4_; clear n0_ n1_ n2_ n3_ n4_; (try clear hb); (try clear hb2); (try clear hi)) | ((with_reducible refine gate_callee (f := 54) rfl ?_); refine goesL_ (some 11) rfl rfl Try.func54 (by kernel_rfl) rfl #[.pointer (some ⟨g468, 0, none⟩)] rfl q101_ ?_; (with_reducible refine (spec_l1Rd_cart.calls k g468 t466 t467 t469 t470 t471 t472 t473 t474 t475 t476 w _ ?side1 ?side2 A3.out).mono ?_); (case side1 => exact q168_); (case side2 => exact q165_); rintro e w10 ⟨rfl, hi, hb, hk⟩; refine ⟨_, rfl, ?_⟩; have n0_ := Aside0.mk (KeepBut.blk hk (g' := gb465) (o := .cells #[.string (⟨#[]⟩ : ByteArray), .int .i64 0, .int .i64 0, .string (⟨#[]⟩ : ByteArray), .int .i64 0, .bool false, .int .i64 0] 32 (0, 0)) q118_ NB465_468.out (by simp)); have n1_ := Aside0.mk (hb); have n2_ := Aside0.mk (hi); clear BK465; clear HB; clear HI468; have BK465 := n0_; have HB := n1_; have HI468 := n2_; clear n0_ n1_ n2_; (try clear hb); (try clear hk); (try clear hi)) | ((with_reducible refine gate_dst (N := 6) rfl ?_); refine box_event ?hg (N := 6) ?hd (cs := #[.string (⟨#[]⟩ : ByteArray), .int .i64 0, .int .i64 0, .string (⟨#[]⟩ : ByteArray), .int .i64 0, .bool false, .int .i64 0]) (t := 32) ?hr ?_; (case hd => rfl); (case hg => rfl); (case hr => exact q175_); intro gb477 hg w11 hbox hb; have n0_ := Aside0.mk (blk_below (g := gb465) (o := .cells #[.string (⟨#[]⟩ : ByteArray), .int .i64 0, .int .i64 0, .string (⟨#[]⟩ : ByteArray), .int .i64 0, .bool false, .int .i64 0] 32 (0, 0)) q118_ hb); have n1_ := Aside0.mk (IsS78.below q73_ hb); have n2_ := Aside0.mk (below_step q55_ hb); have n3_ := Aside0.mk (hbox); have n4_ := Aside0.mk ((q37_ : w.heap.size ≤ gb477)); have n5_ := Aside0.mk ((q37_ : w.heap.size ≤ gb477)); have n6_ := Aside0.mk ((q18_ : gb465 ≠ gb477)); have n7_ := Aside0.mk ((q19_ : gb477 ≠ gb465)); have n8_ := Aside0.mk ((q31_ : g468 ≠ gb477)); have n9_ := Aside0.mk ((q32_ : gb477 ≠ g468)); clear BK465; clear HI468; clear HB; have BK465 := n0_; have HI468 := n1_; have HB := n2_; have BK477 := n3_; have GW477 := n4_; have GE477 := n5_; have NB465_477 := n6_; have NB477_465 := n7_; have NB468_477 := n8_; have NB477_468 := n9_; clear n0_ n1_ n2_ n3_ n4_ n5_ n6_ n7_ n8_ n9_; clear hb hbox hg; have hnb12 := NB477_465.out; have hnc12 := NB465_477.out; have hnb13 := NB477_468.out; have hnc13 := NB468_477.out; have hcz14_0 : w11.cell? ⟨gb477, 0, none⟩ = some (.string (⟨#[]⟩ : ByteArray)) := (blk_cell BK477.out 0).trans rfl; have hcz14_1 : w11.cell? ⟨gb477, 1, none⟩ = some (.int .i64 0) := (blk_cell BK477.out 1).trans rfl; have hcz14_2 : w11.cell? ⟨gb477, 2, none⟩ = some (.int .i64 0) := (blk_cell BK477.out 2).trans rfl; have hcz14_3 : w11.cell? ⟨gb477, 3, none⟩ = some (.string (⟨#[]⟩ : ByteArray)) := (blk_cell BK477.out 3).trans rfl; have hcz14_4 : w11.cell? ⟨gb477, 4, none⟩ = some (.int .i64 0) := (blk_cell BK477.out 4).trans rfl; have hcz14_5 : w11.cell? ⟨gb477, 5, none⟩ = some (.bool false) := (blk_cell BK477.out 5).trans rfl; have hcz14_6 : w11.cell? ⟨gb477, 6, none⟩ = some (.int .i64 0) := (blk_cell BK477.out 6).trans rfl; have hfz14_0 := blk_frozen BK477.out 0; have hfz14_1 := blk_frozen BK477.out 1; have hfz14_2 := blk_frozen BK477.out 2; have hfz14_3 := blk_frozen BK477.out 3; have hfz14_4 := blk_frozen BK477.out 4; have hfz14_5 := blk_frozen BK477.out 5; have hfz14_6 := blk_frozen BK477.out 6) | ((with_reducible refine gate_callee (f := 55) rfl ?_); refine goesL_ (some 13) rfl rfl Try.func55 (by kernel_rfl) rfl #[.pointer (some ⟨g468, 0, none⟩)] rfl q101_ ?_; (with_reducible refine (spec_l1Rd_addr.calls k g468 t466 t476 t478 t479 w _ ?side1 ?side2 A4.out).mono ?_); (case side1 => exact q161_); (case side2 => exact q157_); rintro e w15 ⟨rfl, hi, hb, hk⟩; refine ⟨_, rfl, ?_⟩; have n0_ := Aside0.mk (KeepBut.blk hk (g' := gb465) (o := .cells #[.string (⟨#[]⟩ : ByteArray), .int .i64 0, .int .i64 0, .string (⟨#[]⟩ : ByteArray), .int .i64 0, .bool false, .int .i64 0] 32 (0, 0)) q10_ NB465_468.out (by simp)); have n1_ := Aside0.mk (KeepBut.blk hk (g' := gb477) (o := .cells #[.string t469, .int .i64 t470, .int .i64 t471, .string t472, .int .i64 t473, .bool t474, .int .i64 t475] 32 (0, 0)) q3_ NB477_468.out (by simp)); have n2_ := Aside0.mk (hb); have n3_ := Aside0.mk (hi); clear BK465; clear BK477; clear HB; clear HI468; have BK465 := n0_; have BK477 := n1_; have HB := n2_; have HI468 := n3_; clear n0_ n1_ n2_ n3_; (try clear hb); (try clear hk); (try clear hi)) | ((with_reducible refine gate_callee (f := 56) rfl ?_); refine goesL_ (some 15) rfl rfl Try.func56 (by kernel_rfl) rfl #[.pointer (some ⟨g468, 0, none⟩), .int .i64 20] rfl q101_ ?_; (with_reducible refine (spec_l1Rd_once.calls g468 t466 t479 20 true t481 w _ ?side1 ?side2 A5.out).mono ?_); (case side1 => exact q161_); (case side2 => exact q157_); rintro e w16 ⟨rfl, hi, hb, hk⟩; refine ⟨_, rfl, ?_⟩; have n0_ := Aside0.mk (KeepBut.blk hk (g' := gb465) (o := .cells #[.string (⟨#[]⟩ : ByteArray), .int .i64 0, .int .i64 0, .string (⟨#[]⟩ : ByteArray), .int .i64 0, .bool false, .int .i64 0] 32 (0, 0)) q118_ NB465_468.out (by simp)); have n1_ := Aside0.mk (KeepBut.blk hk (g' := gb477) (o := .cells #[.string t469, .int .i64 t470, .int .i64 t471, .string t472, .int .i64 t473, .bool t474, .int .i64 t475] 32 (0, 0)) q119_ NB477_468.out (by simp)); have n2_ := Aside0.mk (hb); have n3_ := Aside0.mk (hi); clear BK465; clear BK477; clear HB; clear HI468; have BK465 := n0_; have BK477 := n1_; have HB := n2_; have HI468 := n3_; clear n0_ n1_ n2_ n3_; (try clear hb); (try clear hk); (try clear hi)))
  have n0_ := Aside0.mk (blk_drew BK465.out)
  have n1_ := Aside0.mk (blk_drew BK477.out)
  have n2_ := Aside0.mk (IsS78.drew HI468.out)
  have n3_ := Aside0.mk (below_drew1 HB.out)
  clear BK465
  clear BK477
  clear HI468
  clear HB
  have BK465 := n0_
  have BK477 := n1_
  have HI468 := n2_
  have HB := n3_
  clear n0_ n1_ n2_ n3_
  refine start_ (n := 7) (S := fun w' => w'.cell? ⟨gb477, 0, none⟩ = some (.string t469) ∧ w'.cell? ⟨gb477, 1, none⟩ = some (.int .i64 t470) ∧ w'.cell? ⟨gb477, 2, none⟩ = some (.int .i64 t471) ∧ w'.cell? ⟨gb477, 3, none⟩ = some (.string t472) ∧ w'.cell? ⟨gb477, 4, none⟩ = some (.int .i64 t473) ∧ w'.cell? ⟨gb477, 5, none⟩ = some (.bool t474) ∧ w'.cell? ⟨gb477, 6, none⟩ = some (.int .i64 t475)) (ds := []) #[false, false, false, false, false, false, false] (by kernel_rfl) rfl rfl ⟨(blk_cell BK477.out 0).trans rfl, (blk_cell BK477.out 1).trans rfl, (blk_cell BK477.out 2).trans rfl, (blk_cell BK477.out 3).trans rfl, (blk_cell BK477.out 4).trans rfl, (blk_cell BK477.out 5).trans rfl, (blk_cell BK477.out 6).trans rfl⟩ (fun hHeld => ?_)
  generalize w16.drew = w17 at BK465 BK477 HI468 HB hHeld ⊢
  refine pure_ (i := 1) (N := some 17) (v := ?_) (a' := ?_) #[false, true, false, false, false, false, false] rfl rfl (by kernel_rfl) (fun _ _ _ h => h) (Or.inl ⟨by rfl, ?_⟩) ?_ ?_
  rotate_left
  ·intro w'
   go_simp
   with_reducible rfl
  rotate_left
  ·simp only [Act.put, List.setIfInBounds_toArray, List.set_cons_zero, List.set_cons_succ, i64_w, i32_w]
   rfl
  refine pure_ (i := 2) (N := some 18) (v := ?_) (a' := ?_) #[false, true, true, false, false, false, false] rfl rfl (by kernel_rfl) (fun _ _ _ h => h) (Or.inl ⟨by rfl, ?_⟩) ?_ ?_
  rotate_left
  ·intro w'
   go_simp
   with_reducible rfl
  rotate_left
  ·simp only [Act.put, List.setIfInBounds_toArray, List.set_cons_zero, List.set_cons_succ, i64_w, i32_w]
   rfl
  refine take_ (i := 0) (N := some 16) (v := ?_) (a' := ?_) #[true, true, true, false, false, false, false] rfl rfl (by kernel_rfl) (fun _ _ _ h => h) (Or.inl ⟨by rfl, ?_⟩) hHeld ?_ ?_
  rotate_left
  ·rintro w' ⟨s0, s1, s2, s3, s4, s5, s6⟩
   go_simp
   with_reducible rfl
  rotate_left
  ·simp only [Act.put, List.setIfInBounds_toArray, List.set_cons_zero, List.set_cons_succ, i64_w, i32_w]
   rfl
  refine one_ (i := 3) (N := some 19) #[true, true, true, true, false, false, false] rfl rfl (by kernel_rfl) (by decide) (fun K hK => ?_)
  refine goes_ Try.func57 (by kernel_rfl) rfl #[.pointer (some ⟨g468, 0, none⟩), .int .i64 0, .int .i64 255] (by rfl) rfl rfl q101_ ?_
  with_reducible refine (spec_l1Rd_off.calls k g468 t466 t481 0 255 t482 t483 w _ ?side1 ?side2 A7.out).mono ?_
  (case side1 => exact q161_)
  (case side2 => exact q157_)
  rintro e w18 ⟨rfl, hi, hb, hk⟩
  refine ⟨_, rfl, ?_⟩
  have n0_ := Aside0.mk (KeepBut.blk hk (g' := gb465) (o := .cells #[.string (⟨#[]⟩ : ByteArray), .int .i64 0, .int .i64 0, .string (⟨#[]⟩ : ByteArray), .int .i64 0, .bool false, .int .i64 0] 32 (0, 0)) q118_ NB465_468.out (by simp))
  have n1_ := Aside0.mk (KeepBut.blk hk (g' := gb477) (o := .cells #[.string t469, .int .i64 t470, .int .i64 t471, .string t472, .int .i64 t473, .bool t474, .int .i64 t475] 32 (0, 0)) q119_ NB477_468.out (by simp))
  have n2_ := Aside0.mk (hb)
  have n3_ := Aside0.mk (hi)
  clear BK465
  clear BK477
  clear HB
  clear HI468
  have BK465 := n0_
  have BK477 := n1_
  have HB := n2_
  have HI468 := n3_
  clear n0_ n1_ n2_ n3_
  (try clear hb)
  (try clear hb2)
  (try clear hk)
  (try clear hi)
  refine hK.out _ _ ⟨(blk_cell BK477.out 0).trans rfl, (blk_cell BK477.out 1).trans rfl, (blk_cell BK477.out 2).trans rfl, (blk_cell BK477.out 3).trans rfl, (blk_cell BK477.out 4).trans rfl, (blk_cell BK477.out 5).trans rfl, (blk_cell BK477.out 6).trans rfl⟩ (fun hHeld => ?_)
  clear hK K
  refine norm_ (a' := ?_) ?_ ?_
  rotate_left
  ·show Act.put _ (some 19) _ = _
   simp only [Act.put, List.setIfInBounds_toArray, List.set_cons_zero, List.set_cons_succ, i64_w, i32_w]
   rfl
  refine one_ (i := 4) (N := none) #[true, true, true, true, true, false, false] rfl rfl (by kernel_rfl) (by decide) (fun K hK => ?_)
  have hs19 : w18.cell? ⟨gb465, 0, none⟩ = some (.string (⟨#[]⟩ : ByteArray)) := bz_ BK465 0
  have hfs19 := blk_frozen BK465.out 0
  have hns19_1 := NB477_465.out
  have hms19_1 := NB465_477.out
  have hs20 : w18.cell? ⟨gb465, 1, none⟩ = some (.int .i64 0) := bz_ BK465 1
  have hfs20 := blk_frozen BK465.out 1
  have hns20_1 := NB477_465.out
  have hms20_1 := NB465_477.out
  have hs21 : w18.cell? ⟨gb465, 2, none⟩ = some (.int .i64 0) := bz_ BK465 2
  have hfs21 := blk_frozen BK465.out 2
  have hns21_1 := NB477_465.out
  have hms21_1 := NB465_477.out
  have hs22 : w18.cell? ⟨gb465, 3, none⟩ = some (.string (⟨#[]⟩ : ByteArray)) := bz_ BK465 3
  have hfs22 := blk_frozen BK465.out 3
  have hns22_1 := NB477_465.out
  have hms22_1 := NB465_477.out
  have hs23 : w18.cell? ⟨gb465, 4, none⟩ = some (.int .i64 0) := bz_ BK465 4
  have hfs23 := blk_frozen BK465.out 4
  have hns23_1 := NB477_465.out
  have hms23_1 := NB465_477.out
  have hs24 : w18.cell? ⟨gb465, 5, none⟩ = some (.bool false) := bz_ BK465 5
  have hfs24 := blk_frozen BK465.out 5
  have hns24_1 := NB477_465.out
  have hms24_1 := NB465_477.out
  have hs25 : w18.cell? ⟨gb465, 6, none⟩ = some (.int .i64 0) := bz_ BK465 6
  have hfs25 := blk_frozen BK465.out 6
  have hns25_1 := NB477_465.out
  have hms25_1 := NB465_477.out
  refine skip_ (w1 := ?_) (by rfl) rfl ?_ ?_
  rotate_left
  ·go_simp
   rfl
  refine hK.out _ _ ⟨((cell_far (p := ⟨gb465, _, none⟩) NB477_465.out _).trans (((cell_far (p := ⟨gb465, _, none⟩) NB477_465.out _).trans (((cell_far (p := ⟨gb465, _, none⟩) NB477_465.out _).trans (((cell_far (p := ⟨gb465, _, none⟩) NB477_465.out _).trans (((cell_far (p := ⟨gb465, _, none⟩) NB477_465.out _).trans (((cell_far (p := ⟨gb465, _, none⟩) NB477_465.out _).trans (((cell_far (p := ⟨gb465, _, none⟩) NB477_465.out _).trans (hHeld.1)))))))))))))), ((cell_far (p := ⟨gb465, _, none⟩) NB477_465.out _).trans (((cell_far (p := ⟨gb465, _, none⟩) NB477_465.out _).trans (((cell_far (p := ⟨gb465, _, none⟩) NB477_465.out _).trans (((cell_far (p := ⟨gb465, _, none⟩) NB477_465.out _).trans (((cell_far (p := ⟨gb465, _, none⟩) NB477_465.out _).trans (((cell_far (p := ⟨gb465, _, none⟩) NB477_465.out _).trans (((cell_far (p := ⟨gb465, _, none⟩) NB477_465.out _).trans (hHeld.2.1)))))))))))))), ((cell_far (p := ⟨gb465, _, none⟩) NB477_465.out _).trans (((cell_far (p := ⟨gb465, _, none⟩) NB477_465.out _).trans (((cell_far (p := ⟨gb465, _, none⟩) NB477_465.out _).trans (((cell_far (p := ⟨gb465, _, none⟩) NB477_465.out _).trans (((cell_far (p := ⟨gb465, _, none⟩) NB477_465.out _).trans (((cell_far (p := ⟨gb465, _, none⟩) NB477_465.out _).trans (((cell_far (p := ⟨gb465, _, none⟩) NB477_465.out _).trans (hHeld.2.2.1)))))))))))))), ((cell_far (p := ⟨gb465, _, none⟩) NB477_465.out _).trans (((cell_far (p := ⟨gb465, _, none⟩) NB477_465.out _).trans (((cell_far (p := ⟨gb465, _, none⟩) NB477_465.out _).trans (((cell_far (p := ⟨gb465, _, none⟩) NB477_465.out _).trans (((cell_far (p := ⟨gb465, _, none⟩) NB477_465.out _).trans (((cell_far (p := ⟨gb465, _, none⟩) NB477_465.out _).trans (((cell_far (p := ⟨gb465, _, none⟩) NB477_465.out _).trans (hHeld.2.2.2.1)))))))))))))), ((cell_far (p := ⟨gb465, _, none⟩) NB477_465.out _).trans (((cell_far (p := ⟨gb465, _, none⟩) NB477_465.out _).trans (((cell_far (p := ⟨gb465, _, none⟩) NB477_465.out _).trans (((cell_far (p := ⟨gb465, _, none⟩) NB477_465.out _).trans (((cell_far (p := ⟨gb465, _, none⟩) NB477_465.out _).trans (((cell_far (p := ⟨gb465, _, none⟩) NB477_465.out _).trans (((cell_far (p := ⟨gb465, _, none⟩) NB477_465.out _).trans (hHeld.2.2.2.2.1)))))))))))))), ((cell_far (p := ⟨gb465, _, none⟩) NB477_465.out _).trans (((cell_far (p := ⟨gb465, _, none⟩) NB477_465.out _).trans (((cell_far (p := ⟨gb465, _, none⟩) NB477_465.out _).trans (((cell_far (p := ⟨gb465, _, none⟩) NB477_465.out _).trans (((cell_far (p := ⟨gb465, _, none⟩) NB477_465.out _).trans (((cell_far (p := ⟨gb465, _, none⟩) NB477_465.out _).trans (((cell_far (p := ⟨gb465, _, none⟩) NB477_465.out _).trans (hHeld.2.2.2.2.2.1)))))))))))))), ((cell_far (p := ⟨gb465, _, none⟩) NB477_465.out _).trans (((cell_far (p := ⟨gb465, _, none⟩) NB477_465.out _).trans (((cell_far (p := ⟨gb465, _, none⟩) NB477_465.out _).trans (((cell_far (p := ⟨gb465, _, none⟩) NB477_465.out _).trans (((cell_far (p := ⟨gb465, _, none⟩) NB477_465.out _).trans (((cell_far (p := ⟨gb465, _, none⟩) NB477_465.out _).trans (((cell_far (p := ⟨gb465, _, none⟩) NB477_465.out _).trans (hHeld.2.2.2.2.2.2))))))))))))))⟩ (fun hHeld => ?_)
  clear hK K
  refine pure_ (i := 5) (N := some 3) (v := ?_) (a' := ?_) #[true, true, true, true, true, true, false] rfl rfl (by kernel_rfl) (fun _ _ _ h => h) (Or.inl ⟨by rfl, ?_⟩) ?_ ?_
  rotate_left
  ·intro w'
   go_simp
   with_reducible rfl
  rotate_left
  ·simp only [Act.put, List.setIfInBounds_toArray, List.set_cons_zero, List.set_cons_succ, i64_w, i32_w]
   rfl
  refine pure_ (i := 6) (N := some 4) (v := ?_) (a' := ?_) #[true, true, true, true, true, true, true] rfl rfl (by kernel_rfl) (fun _ _ _ h => h) (Or.inl ⟨by rfl, ?_⟩) ?_ ?_
  rotate_left
  ·intro w'
   go_simp
   with_reducible rfl
  rotate_left
  ·simp only [Act.put, List.setIfInBounds_toArray, List.set_cons_zero, List.set_cons_succ, i64_w, i32_w]
   rfl
  refine done_ (by kernel_rfl) ?_
  try go_wp2
  refine bodyPost_ret (results_ctt rfl _ _ gb465 32 #[.string t469, .int .i64 t470, .int .i64 t471, .string t472, .int .i64 t473, .bool t474, .int .i64 t475] (0, 0) _ rfl q4_ Try.underlying32 rfl (by kernel_rfl)) rfl ?_
  exact ⟨q103_, q38_⟩
 ·replace c6 := Bool.eq_false_iff.mpr c6
  subst c6
  replace H : ((spec_l1Rd_byte.f t466 t481).bind fun bt484 => (some (t469, t470, t471, t472, t473, t474, t475, t478, bt484.1))) = some (r1, r2, r3, r4, r5, r6, r7, r8, r9) := by rw [if_neg (show ¬ (false = true) by decide)] at H; exact H
  replace H := Option.bind_eq_some_iff.mp H
  obtain ⟨⟨t484, t485⟩, A260, H⟩ := H
  replace H : (some (t469, t470, t471, t472, t473, t474, t475, t478, t484)) = some (r1, r2, r3, r4, r5, r6, r7, r8, r9) := H
  have A26 := Aside0.mk A260
  clear A260
  simp only [Option.some.injEq, Prod.mk.injEq] at H
  obtain ⟨rfl, rfl, rfl, rfl, rfl, rfl, rfl, rfl, rfl⟩ := H
  go_enter Try.func17, Try.ntmps17
  try go_wp2_with (first | ((with_reducible refine gate_dst (N := 2) rfl ?_); refine box_event ?hg (N := 2) ?hd (cs := #[.string (⟨#[]⟩ : ByteArray), .int .i64 0, .int .i64 0, .string (⟨#[]⟩ : ByteArray), .int .i64 0, .bool false, .int .i64 0]) (t := 32) ?hr ?_; (case hd => rfl); (case hg => rfl); (case hr => exact q175_); intro gb465 hg w27 hbox hb; have n0_ := Aside0.mk (below_step q102_ hb); have n1_ := Aside0.mk (hbox); have n2_ := Aside0.mk ((q80_ : w.heap.size ≤ gb465)); have n3_ := Aside0.mk ((q80_ : w.heap.size ≤ gb465)); clear HB; have HB := n0_; have BK465 := n1_; have GW465 := n2_; have GE465 := n3_; clear n0_ n1_ n2_ n3_; clear hb hbox hg) | ((with_reducible refine gate_callee (f := 36) rfl ?_); refine goesL_ (some 9) rfl rfl Try.func36 (by kernel_rfl) rfl #[.slice A0 l0.length c0] rfl q101_ ?_; (with_reducible refine (spec_l1Open.calls _ _ l0 t466 t467 w _ ?side1 ?side2 ?side3 A2.out).mono ?_); (case side1 => exact q172_); (case side2 => exact HR0.out); (case side3 => exact HC0.out); rintro e w28 ⟨g468, rfl, hi, hb, hb2⟩; refine ⟨_, rfl, ?_⟩; have n0_ := Aside0.mk (blk_below (g := gb465) (o := .cells #[.string (⟨#[]⟩ : ByteArray), .int .i64 0, .int .i64 0, .string (⟨#[]⟩ : ByteArray), .int .i64 0, .bool false, .int .i64 0] 32 (0, 0)) q118_ hb2); have n1_ := Aside0.mk (hb); have n2_ := Aside0.mk (hi); have n3_ := Aside0.mk (IsS78.ne_blk hi (blk_below (g := gb465) (o := .cells #[.string (⟨#[]⟩ : ByteArray), .int .i64 0, .int .i64 0, .string (⟨#[]⟩ : ByteArray), .int .i64 0, .bool false, .int .i64 0] 32 (0, 0)) q118_ hb2) (by decide)); have n4_ := Aside0.mk (Ne.symm (IsS78.ne_blk hi (blk_below (g := gb465) (o := .cells #[.string (⟨#[]⟩ : ByteArray), .int .i64 0, .int .i64 0, .string (⟨#[]⟩ : ByteArray), .int .i64 0, .bool false, .int .i64 0] 32 (0, 0)) q118_ hb2) (by decide))); clear BK465; clear HB; have BK465 := n0_; have HB := n1_; have HI468 := n2_; have NB468_465 := n3_; have NB465_468 := n4_; clear n0_ n1_ n2_ n3_ n4_; (try clear hb); (try clear hb2); (try clear hi)) | ((with_reducible refine gate_callee (f := 54) rfl ?_); refine goesL_ (some 11) rfl rfl Try.func54 (by kernel_rfl) rfl #[.pointer (some ⟨g468, 0, none⟩)] rfl q101_ ?_; (with_reducible refine (spec_l1Rd_cart.calls k g468 t466 t467 t469 t470 t471 t472 t473 t474 t475 t476 w _ ?side1 ?side2 A3.out).mono ?_); (case side1 => exact q168_); (case side2 => exact q165_); rintro e w29 ⟨rfl, hi, hb, hk⟩; refine ⟨_, rfl, ?_⟩; have n0_ := Aside0.mk (KeepBut.blk hk (g' := gb465) (o := .cells #[.string (⟨#[]⟩ : ByteArray), .int .i64 0, .int .i64 0, .string (⟨#[]⟩ : ByteArray), .int .i64 0, .bool false, .int .i64 0] 32 (0, 0)) q118_ NB465_468.out (by simp)); have n1_ := Aside0.mk (hb); have n2_ := Aside0.mk (hi); clear BK465; clear HB; clear HI468; have BK465 := n0_; have HB := n1_; have HI468 := n2_; clear n0_ n1_ n2_; (try clear hb); (try clear hk); (try clear hi)) | ((with_reducible refine gate_dst (N := 6) rfl ?_); refine box_event ?hg (N := 6) ?hd (cs := #[.string (⟨#[]⟩ : ByteArray), .int .i64 0, .int .i64 0, .string (⟨#[]⟩ : ByteArray), .int .i64 0, .bool false, .int .i64 0]) (t := 32) ?hr ?_; (case hd => rfl); (case hg => rfl); (case hr => exact q175_); intro gb477 hg w30 hbox hb; have n0_ := Aside0.mk (blk_below (g := gb465) (o := .cells #[.string (⟨#[]⟩ : ByteArray), .int .i64 0, .int .i64 0, .string (⟨#[]⟩ : ByteArray), .int .i64 0, .bool false, .int .i64 0] 32 (0, 0)) q118_ hb); have n1_ := Aside0.mk (IsS78.below q73_ hb); have n2_ := Aside0.mk (below_step q55_ hb); have n3_ := Aside0.mk (hbox); have n4_ := Aside0.mk ((q37_ : w.heap.size ≤ gb477)); have n5_ := Aside0.mk ((q37_ : w.heap.size ≤ gb477)); have n6_ := Aside0.mk ((q18_ : gb465 ≠ gb477)); have n7_ := Aside0.mk ((q19_ : gb477 ≠ gb465)); have n8_ := Aside0.mk ((q31_ : g468 ≠ gb477)); have n9_ := Aside0.mk ((q32_ : gb477 ≠ g468)); clear BK465; clear HI468; clear HB; have BK465 := n0_; have HI468 := n1_; have HB := n2_; have BK477 := n3_; have GW477 := n4_; have GE477 := n5_; have NB465_477 := n6_; have NB477_465 := n7_; have NB468_477 := n8_; have NB477_468 := n9_; clear n0_ n1_ n2_ n3_ n4_ n5_ n6_ n7_ n8_ n9_; clear hb hbox hg; have hnb31 := NB477_465.out; have hnc31 := NB465_477.out; have hnb32 := NB477_468.out; have hnc32 := NB468_477.out; have hcz33_0 : w30.cell? ⟨gb477, 0, none⟩ = some (.string (⟨#[]⟩ : ByteArray)) := (blk_cell BK477.out 0).trans rfl; have hcz33_1 : w30.cell? ⟨gb477, 1, none⟩ = some (.int .i64 0) := (blk_cell BK477.out 1).trans rfl; have hcz33_2 : w30.cell? ⟨gb477, 2, none⟩ = some (.int .i64 0) := (blk_cell BK477.out 2).trans rfl; have hcz33_3 : w30.cell? ⟨gb477, 3, none⟩ = some (.string (⟨#[]⟩ : ByteArray)) := (blk_cell BK477.out 3).trans rfl; have hcz33_4 : w30.cell? ⟨gb477, 4, none⟩ = some (.int .i64 0) := (blk_cell BK477.out 4).trans rfl; have hcz33_5 : w30.cell? ⟨gb477, 5, none⟩ = some (.bool false) := (blk_cell BK477.out 5).trans rfl; have hcz33_6 : w30.cell? ⟨gb477, 6, none⟩ = some (.int .i64 0) := (blk_cell BK477.out 6).trans rfl; have hfz33_0 := blk_frozen BK477.out 0; have hfz33_1 := blk_frozen BK477.out 1; have hfz33_2 := blk_frozen BK477.out 2; have hfz33_3 := blk_frozen BK477.out 3; have hfz33_4 := blk_frozen BK477.out 4; have hfz33_5 := blk_frozen BK477.out 5; have hfz33_6 := blk_frozen BK477.out 6) | ((with_reducible refine gate_callee (f := 55) rfl ?_); refine goesL_ (some 13) rfl rfl Try.func55 (by kernel_rfl) rfl #[.pointer (some ⟨g468, 0, none⟩)] rfl q101_ ?_; (with_reducible refine (spec_l1Rd_addr.calls k g468 t466 t476 t478 t479 w _ ?side1 ?side2 A4.out).mono ?_); (case side1 => exact q161_); (case side2 => exact q157_); rintro e w34 ⟨rfl, hi, hb, hk⟩; refine ⟨_, rfl, ?_⟩; have n0_ := Aside0.mk (KeepBut.blk hk (g' := gb465) (o := .cells #[.string (⟨#[]⟩ : ByteArray), .int .i64 0, .int .i64 0, .string (⟨#[]⟩ : ByteArray), .int .i64 0, .bool false, .int .i64 0] 32 (0, 0)) q10_ NB465_468.out (by simp)); have n1_ := Aside0.mk (KeepBut.blk hk (g' := gb477) (o := .cells #[.string t469, .int .i64 t470, .int .i64 t471, .string t472, .int .i64 t473, .bool t474, .int .i64 t475] 32 (0, 0)) q3_ NB477_468.out (by simp)); have n2_ := Aside0.mk (hb); have n3_ := Aside0.mk (hi); clear BK465; clear BK477; clear HB; clear HI468; have BK465 := n0_; have BK477 := n1_; have HB := n2_; have HI468 := n3_; clear n0_ n1_ n2_ n3_; (try clear hb); (try clear hk); (try clear hi)) | ((with_reducible refine gate_callee (f := 56) rfl ?_); refine goesL_ (some 15) rfl rfl Try.func56 (by kernel_rfl) rfl #[.pointer (some ⟨g468, 0, none⟩), .int .i64 20] rfl q101_ ?_; (with_reducible refine (spec_l1Rd_once.calls g468 t466 t479 20 false t481 w _ ?side1 ?side2 A5.out).mono ?_); (case side1 => exact q161_); (case side2 => exact q157_); rintro e w35 ⟨rfl, hi, hb, hk⟩; refine ⟨_, rfl, ?_⟩; have n0_ := Aside0.mk (KeepBut.blk hk (g' := gb465) (o := .cells #[.string (⟨#[]⟩ : ByteArray), .int .i64 0, .int .i64 0, .string (⟨#[]⟩ : ByteArray), .int .i64 0, .bool false, .int .i64 0] 32 (0, 0)) q118_ NB465_468.out (by simp)); have n1_ := Aside0.mk (KeepBut.blk hk (g' := gb477) (o := .cells #[.string t469, .int .i64 t470, .int .i64 t471, .string t472, .int .i64 t473, .bool t474, .int .i64 t475] 32 (0, 0)) q119_ NB477_468.out (by simp)); have n2_ := Aside0.mk (hb); have n3_ := Aside0.mk (hi); clear BK465; clear BK477; clear HB; clear HI468; have BK465 := n0_; have BK477 := n1_; have HB := n2_; have HI468 := n3_; clear n0_ n1_ n2_ n3_; (try clear hb); (try clear hk); (try clear hi)))
  have n0_ := Aside0.mk (blk_drew BK465.out)
  have n1_ := Aside0.mk (blk_drew BK477.out)
  have n2_ := Aside0.mk (IsS78.drew HI468.out)
  have n3_ := Aside0.mk (below_drew1 HB.out)
  clear BK465
  clear BK477
  clear HI468
  clear HB
  have BK465 := n0_
  have BK477 := n1_
  have HI468 := n2_
  have HB := n3_
  clear n0_ n1_ n2_ n3_
  refine start_ (n := 7) (S := fun w' => w'.cell? ⟨gb477, 0, none⟩ = some (.string t469) ∧ w'.cell? ⟨gb477, 1, none⟩ = some (.int .i64 t470) ∧ w'.cell? ⟨gb477, 2, none⟩ = some (.int .i64 t471) ∧ w'.cell? ⟨gb477, 3, none⟩ = some (.string t472) ∧ w'.cell? ⟨gb477, 4, none⟩ = some (.int .i64 t473) ∧ w'.cell? ⟨gb477, 5, none⟩ = some (.bool t474) ∧ w'.cell? ⟨gb477, 6, none⟩ = some (.int .i64 t475)) (ds := []) #[false, false, false, false, false, false, false] (by kernel_rfl) rfl rfl ⟨(blk_cell BK477.out 0).trans rfl, (blk_cell BK477.out 1).trans rfl, (blk_cell BK477.out 2).trans rfl, (blk_cell BK477.out 3).trans rfl, (blk_cell BK477.out 4).trans rfl, (blk_cell BK477.out 5).trans rfl, (blk_cell BK477.out 6).trans rfl⟩ (fun hHeld => ?_)
  generalize w35.drew = w36 at BK465 BK477 HI468 HB hHeld ⊢
  refine pure_ (i := 1) (N := some 21) (v := ?_) (a' := ?_) #[false, true, false, false, false, false, false] rfl rfl (by kernel_rfl) (fun _ _ _ h => h) (Or.inl ⟨by rfl, ?_⟩) ?_ ?_
  rotate_left
  ·intro w'
   go_simp
   with_reducible rfl
  rotate_left
  ·simp only [Act.put, List.setIfInBounds_toArray, List.set_cons_zero, List.set_cons_succ, i64_w, i32_w]
   rfl
  refine pure_ (i := 2) (N := some 22) (v := ?_) (a' := ?_) #[false, true, true, false, false, false, false] rfl rfl (by kernel_rfl) (fun _ _ _ h => h) (Or.inl ⟨by rfl, ?_⟩) ?_ ?_
  rotate_left
  ·intro w'
   go_simp
   with_reducible rfl
  rotate_left
  ·simp only [Act.put, List.setIfInBounds_toArray, List.set_cons_zero, List.set_cons_succ, i64_w, i32_w]
   rfl
  refine take_ (i := 0) (N := some 20) (v := ?_) (a' := ?_) #[true, true, true, false, false, false, false] rfl rfl (by kernel_rfl) (fun _ _ _ h => h) (Or.inl ⟨by rfl, ?_⟩) hHeld ?_ ?_
  rotate_left
  ·rintro w' ⟨s0, s1, s2, s3, s4, s5, s6⟩
   go_simp
   with_reducible rfl
  rotate_left
  ·simp only [Act.put, List.setIfInBounds_toArray, List.set_cons_zero, List.set_cons_succ, i64_w, i32_w]
   rfl
  refine one_ (i := 3) (N := some 23) #[true, true, true, true, false, false, false] rfl rfl (by kernel_rfl) (by decide) (fun K hK => ?_)
  refine goes_ Try.func58 (by kernel_rfl) rfl #[.pointer (some ⟨g468, 0, none⟩)] (by rfl) rfl rfl q101_ ?_
  with_reducible refine (spec_l1Rd_byte.calls g468 t466 t481 t484 t485 w _ ?side1 ?side2 A26.out).mono ?_
  (case side1 => exact q161_)
  (case side2 => exact q157_)
  rintro e w37 ⟨rfl, hi, hb, hk⟩
  refine ⟨_, rfl, ?_⟩
  have n0_ := Aside0.mk (KeepBut.blk hk (g' := gb465) (o := .cells #[.string (⟨#[]⟩ : ByteArray), .int .i64 0, .int .i64 0, .string (⟨#[]⟩ : ByteArray), .int .i64 0, .bool false, .int .i64 0] 32 (0, 0)) q118_ NB465_468.out (by simp))
  have n1_ := Aside0.mk (KeepBut.blk hk (g' := gb477) (o := .cells #[.string t469, .int .i64 t470, .int .i64 t471, .string t472, .int .i64 t473, .bool t474, .int .i64 t475] 32 (0, 0)) q119_ NB477_468.out (by simp))
  have n2_ := Aside0.mk (hb)
  have n3_ := Aside0.mk (hi)
  clear BK465
  clear BK477
  clear HB
  clear HI468
  have BK465 := n0_
  have BK477 := n1_
  have HB := n2_
  have HI468 := n3_
  clear n0_ n1_ n2_ n3_
  (try clear hb)
  (try clear hb2)
  (try clear hk)
  (try clear hi)
  refine hK.out _ _ ⟨(blk_cell BK477.out 0).trans rfl, (blk_cell BK477.out 1).trans rfl, (blk_cell BK477.out 2).trans rfl, (blk_cell BK477.out 3).trans rfl, (blk_cell BK477.out 4).trans rfl, (blk_cell BK477.out 5).trans rfl, (blk_cell BK477.out 6).trans rfl⟩ (fun hHeld => ?_)
  clear hK K
  refine norm_ (a' := ?_) ?_ ?_
  rotate_left
  ·show Act.put _ (some 23) _ = _
   simp only [Act.put, List.setIfInBounds_toArray, List.set_cons_zero, List.set_cons_succ, i64_w, i32_w]
   rfl
  refine one_ (i := 4) (N := none) #[true, true, true, true, true, false, false] rfl rfl (by kernel_rfl) (by decide) (fun K hK => ?_)
  have hs38 : w37.cell? ⟨gb465, 0, none⟩ = some (.string (⟨#[]⟩ : ByteArray)) := bz_ BK465 0
  have hfs38 := blk_frozen BK465.out 0
  have hns38_1 := NB477_465.out
  have hms38_1 := NB465_477.out
  have hs39 : w37.cell? ⟨gb465, 1, none⟩ = some (.int .i64 0) := bz_ BK465 1
  have hfs39 := blk_frozen BK465.out 1
  have hns39_1 := NB477_465.out
  have hms39_1 := NB465_477.out
  have hs40 : w37.cell? ⟨gb465, 2, none⟩ = some (.int .i64 0) := bz_ BK465 2
  have hfs40 := blk_frozen BK465.out 2
  have hns40_1 := NB477_465.out
  have hms40_1 := NB465_477.out
  have hs41 : w37.cell? ⟨gb465, 3, none⟩ = some (.string (⟨#[]⟩ : ByteArray)) := bz_ BK465 3
  have hfs41 := blk_frozen BK465.out 3
  have hns41_1 := NB477_465.out
  have hms41_1 := NB465_477.out
  have hs42 : w37.cell? ⟨gb465, 4, none⟩ = some (.int .i64 0) := bz_ BK465 4
  have hfs42 := blk_frozen BK465.out 4
  have hns42_1 := NB477_465.out
  have hms42_1 := NB465_477.out
  have hs43 : w37.cell? ⟨gb465, 5, none⟩ = some (.bool false) := bz_ BK465 5
  have hfs43 := blk_frozen BK465.out 5
  have hns43_1 := NB477_465.out
  have hms43_1 := NB465_477.out
  have hs44 : w37.cell? ⟨gb465, 6, none⟩ = some (.int .i64 0) := bz_ BK465 6
  have hfs44 := blk_frozen BK465.out 6
  have hns44_1 := NB477_465.out
  have hms44_1 := NB465_477.out
  refine skip_ (w1 := ?_) (by rfl) rfl ?_ ?_
  rotate_left
  ·go_simp
   rfl
  refine hK.out _ _ ⟨((cell_far (p := ⟨gb465, _, none⟩) NB477_465.out _).trans (((cell_far (p := ⟨gb465, _, none⟩) NB477_465.out _).trans (((cell_far (p := ⟨gb465, _, none⟩) NB477_465.out _).trans (((cell_far (p := ⟨gb465, _, none⟩) NB477_465.out _).trans (((cell_far (p := ⟨gb465, _, none⟩) NB477_465.out _).trans (((cell_far (p := ⟨gb465, _, none⟩) NB477_465.out _).trans (((cell_far (p := ⟨gb465, _, none⟩) NB477_465.out _).trans (hHeld.1)))))))))))))), ((cell_far (p := ⟨gb465, _, none⟩) NB477_465.out _).trans (((cell_far (p := ⟨gb465, _, none⟩) NB477_465.out _).trans (((cell_far (p := ⟨gb465, _, none⟩) NB477_465.out _).trans (((cell_far (p := ⟨gb465, _, none⟩) NB477_465.out _).trans (((cell_far (p := ⟨gb465, _, none⟩) NB477_465.out _).trans (((cell_far (p := ⟨gb465, _, none⟩) NB477_465.out _).trans (((cell_far (p := ⟨gb465, _, none⟩) NB477_465.out _).trans (hHeld.2.1)))))))))))))), ((cell_far (p := ⟨gb465, _, none⟩) NB477_465.out _).trans (((cell_far (p := ⟨gb465, _, none⟩) NB477_465.out _).trans (((cell_far (p := ⟨gb465, _, none⟩) NB477_465.out _).trans (((cell_far (p := ⟨gb465, _, none⟩) NB477_465.out _).trans (((cell_far (p := ⟨gb465, _, none⟩) NB477_465.out _).trans (((cell_far (p := ⟨gb465, _, none⟩) NB477_465.out _).trans (((cell_far (p := ⟨gb465, _, none⟩) NB477_465.out _).trans (hHeld.2.2.1)))))))))))))), ((cell_far (p := ⟨gb465, _, none⟩) NB477_465.out _).trans (((cell_far (p := ⟨gb465, _, none⟩) NB477_465.out _).trans (((cell_far (p := ⟨gb465, _, none⟩) NB477_465.out _).trans (((cell_far (p := ⟨gb465, _, none⟩) NB477_465.out _).trans (((cell_far (p := ⟨gb465, _, none⟩) NB477_465.out _).trans (((cell_far (p := ⟨gb465, _, none⟩) NB477_465.out _).trans (((cell_far (p := ⟨gb465, _, none⟩) NB477_465.out _).trans (hHeld.2.2.2.1)))))))))))))), ((cell_far (p := ⟨gb465, _, none⟩) NB477_465.out _).trans (((cell_far (p := ⟨gb465, _, none⟩) NB477_465.out _).trans (((cell_far (p := ⟨gb465, _, none⟩) NB477_465.out _).trans (((cell_far (p := ⟨gb465, _, none⟩) NB477_465.out _).trans (((cell_far (p := ⟨gb465, _, none⟩) NB477_465.out _).trans (((cell_far (p := ⟨gb465, _, none⟩) NB477_465.out _).trans (((cell_far (p := ⟨gb465, _, none⟩) NB477_465.out _).trans (hHeld.2.2.2.2.1)))))))))))))), ((cell_far (p := ⟨gb465, _, none⟩) NB477_465.out _).trans (((cell_far (p := ⟨gb465, _, none⟩) NB477_465.out _).trans (((cell_far (p := ⟨gb465, _, none⟩) NB477_465.out _).trans (((cell_far (p := ⟨gb465, _, none⟩) NB477_465.out _).trans (((cell_far (p := ⟨gb465, _, none⟩) NB477_465.out _).trans (((cell_far (p := ⟨gb465, _, none⟩) NB477_465.out _).trans (((cell_far (p := ⟨gb465, _, none⟩) NB477_465.out _).trans (hHeld.2.2.2.2.2.1)))))))))))))), ((cell_far (p := ⟨gb465, _, none⟩) NB477_465.out _).trans (((cell_far (p := ⟨gb465, _, none⟩) NB477_465.out _).trans (((cell_far (p := ⟨gb465, _, none⟩) NB477_465.out _).trans (((cell_far (p := ⟨gb465, _, none⟩) NB477_465.out _).trans (((cell_far (p := ⟨gb465, _, none⟩) NB477_465.out _).trans (((cell_far (p := ⟨gb465, _, none⟩) NB477_465.out _).trans (((cell_far (p := ⟨gb465, _, none⟩) NB477_465.out _).trans (hHeld.2.2.2.2.2.2))))))))))))))⟩ (fun hHeld => ?_)
  clear hK K
  refine pure_ (i := 5) (N := some 3) (v := ?_) (a' := ?_) #[true, true, true, true, true, true, false] rfl rfl (by kernel_rfl) (fun _ _ _ h => h) (Or.inl ⟨by rfl, ?_⟩) ?_ ?_
  rotate_left
  ·intro w'
   go_simp
   with_reducible rfl
  rotate_left
  ·simp only [Act.put, List.setIfInBounds_toArray, List.set_cons_zero, List.set_cons_succ, i64_w, i32_w]
   rfl
  refine pure_ (i := 6) (N := some 4) (v := ?_) (a' := ?_) #[true, true, true, true, true, true, true] rfl rfl (by kernel_rfl) (fun _ _ _ h => h) (Or.inl ⟨by rfl, ?_⟩) ?_ ?_
  rotate_left
  ·intro w'
   go_simp
   with_reducible rfl
  rotate_left
  ·simp only [Act.put, List.setIfInBounds_toArray, List.set_cons_zero, List.set_cons_succ, i64_w, i32_w]
   rfl
  refine done_ (by kernel_rfl) ?_
  try go_wp2
  refine bodyPost_ret (results_ctt rfl _ _ gb465 32 #[.string t469, .int .i64 t470, .int .i64 t471, .string t472, .int .i64 t473, .bool t474, .int .i64 t475] (0, 0) _ rfl q4_ Try.underlying32 rfl (by kernel_rfl)) rfl ?_
  exact ⟨q103_, q38_⟩
def impl_within.f (a0 : Int) (a1 : Int) (a2 : Int) : Option (Bool) := if a0 ≥ a1 then (some (decide (a0 ≤ a2))) else (some false)
theorem impl_within.calls (a0 : Int) (a1 : Int) (a2 : Int) (r : Bool) (w : World) (h : impl_within.f a0 a1 a2 = some r) :
  Calls Try.prog 38 #[.int .i64 a0, .int .i64 a1, .int .i64 a2] w fun e w' => e = .returned (.bool r) ∧ Drawn0 w w' := by
 have H : (if a0 ≥ a1 then (some (decide (a0 ≤ a2))) else (some false)) = some r := h
 clear h
 by_cases c4 : a0 ≥ a1
 ·rw [if_pos c4] at H
  have c4b0 : decide (a1 ≤ a0) = true := decide_eq_true c4
  clear c4
  obtain rfl := Option.some.inj H
  go_enter Try.func38, Try.ntmps38
  go_wp2
  go_ret
  exact ⟨q133_, q140_⟩
 ·rw [if_neg c4] at H
  have c4b0 : decide (a1 ≤ a0) = false := decide_eq_false c4
  clear c4
  obtain rfl := Option.some.inj H
  go_enter Try.func38, Try.ntmps38
  go_wp2
  go_ret
  exact ⟨q133_, q140_⟩
def impl_isByte.f (a0 : Int) : Option (Bool) := (impl_within.f a0 0 255).bind fun t486 => (some t486)
theorem impl_isByte.calls (a0 : Int) (r : Bool) (w : World) (h : impl_isByte.f a0 = some r) :
  Calls Try.prog 60 #[.int .i64 a0] w fun e w' => e = .returned (.bool r) ∧ Drawn0 w w' := by
 have H : ((impl_within.f a0 0 255).bind fun t486 => (some t486)) = some r := h
 clear h
 replace H := Option.bind_eq_some_iff.mp H
 obtain ⟨t486, A20, H⟩ := H
 have A2 := Aside0.mk A20
 clear A20
 obtain rfl := Option.some.inj H
 go_enter Try.func60, Try.ntmps60
 go_wp2_with (first | ((with_reducible refine gate_callee (f := 38) rfl ?_); refine goesL_ (some 4) rfl rfl Try.func38 (by kernel_rfl) rfl #[.int .i64 a0, .int .i64 0, .int .i64 255] rfl q101_ ?_; (with_reducible refine (impl_within.calls a0 0 255 t486 _ A2.out).mono ?_); rintro e w' ⟨rfl, ⟨nd, rfl⟩⟩; refine ⟨_, rfl, ?_⟩))
 go_ret
 exact ⟨q133_, q140_⟩
end Go.Proofs.Ytcohcndliaaacaa.QFnCartWrites
