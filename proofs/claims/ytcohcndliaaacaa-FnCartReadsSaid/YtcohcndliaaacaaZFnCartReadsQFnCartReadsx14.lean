/- The machine's side of a law, written by a program of this session for this claim. -/
import Derived.Test.YtcohcndliaaacaaZFnCartReadsQq
import Derived.Test.YtcohcndliaaacaaZFnCartReadsQFnCartReadsx0
import Derived.Test.YtcohcndliaaacaaZFnCartReadsQFnCartReadsx1
import Derived.Test.YtcohcndliaaacaaZFnCartReadsQFnCartReadsx2
import Derived.Test.YtcohcndliaaacaaZFnCartReadsQFnCartReadsx11
import Derived.Test.YtcohcndliaaacaaZFnCartReadsQFnCartReadsx12
import Derived.Test.YtcohcndliaaacaaZFnCartReadsQFnCartReadsx13
namespace Go.Proofs.Ytcohcndliaaacaa.QFnCartReads
open Go.Proofs.Ytcohcndliaaacaa.Qq
open Go.RowKit Go.Proofs.Ytcohcndliaaacaa.LibX Go.Proofs.Ytcohcndliaaacaa.LibC Go.Proofs.YtcohcndliaaacaaW.PrintWords Go.Proofs.YtcohcndliaaacaaW.PrintLast Go.Proofs.YtcohcndliaaacaaW.PrintMore
attribute [local go_sem] max2_int min2_int max_two min_two max_three min_three max_four min_four   -- for this text's walks alone
set_option maxHeartbeats 8000000
set_option maxRecDepth 100000
set_option linter.unusedVariables false
set_option linter.unusedSimpArgs false
def laws_FnCartReads.j0 : Nat → Int → Int → Bool → ByteArray → Int → Int → ByteArray → Int → Bool → Int → Option (Bool)
 | 0, _, _, _, _, _, _, _, _, _, _ => none
 | k + 1, x4, x5, x32, x525000, x525001, x525002, x525003, x525004, x525005, x525006 => if x32 = true then ((spec_CartRead.f k x525000 x525001 x525002 x525003 x525004 x525005 x525006 x4).bind fun t529 => (if x5 = t529 then ((impl_CartOk.f k x525000 x525001 x525002 x525003 x525004 x525005 x525006).bind fun t530 => ((spec_CartOk.f k x525000 x525001 x525002 x525003 x525004 x525005 x525006).bind fun t531 => (some (t530 == t531)))) else (some false))) else (if x4 < 256 then (if 0 ≤ x4 then (if x4 < (x525000.size : Int) then (some (x5 == (wrap64 (bt x525000 x4)))) else (none)) else (none)) else (if x4 < 512 then ((impl_MappedBank.f k x525000 x525001 x525002 x525003 x525004 x525005 x525006).bind fun t532 => (if t532 ≥ 0 then ((spec_MappedBank.f k x525000 x525001 x525002 x525003 x525004 x525005 x525006).bind fun t533 => (if t532 = t533 then (if 0 ≤ (wrap64 ((wrap64 ((wrap64 (t532 * 256)) + x4)) - 256)) then (if (wrap64 ((wrap64 ((wrap64 (t532 * 256)) + x4)) - 256)) < (x525000.size : Int) then (some (x5 == (wrap64 (bt x525000 (wrap64 ((wrap64 ((wrap64 (t532 * 256)) + x4)) - 256)))))) else (none)) else (none)) else (some false))) else (some false))) else (if x4 < 40960 then (some (x5 == 255)) else (if x4 ≥ 41024 then (some (x5 == 255)) else (if x525005 = true then (some (decide (x5 ≤ 255))) else (some (x5 == 255)))))))
def laws_FnCartReads.f (k : Nat) (l0 : List Int) : Option (Bool) := (laws_big.f l0).bind fun t515 => (if t515 = true then (some true) else ((spec_DrawCartRead.f k l0).bind fun bt516 => ((impl_CartRead.f k bt516.1 bt516.2.1 bt516.2.2.1 bt516.2.2.2.1 bt516.2.2.2.2.1 bt516.2.2.2.2.2.1 bt516.2.2.2.2.2.2.1 bt516.2.2.2.2.2.2.2).bind fun t525 => ((spec_CartRead.f k bt516.1 bt516.2.1 bt516.2.2.1 bt516.2.2.2.1 bt516.2.2.2.2.1 bt516.2.2.2.2.2.1 bt516.2.2.2.2.2.2.1 bt516.2.2.2.2.2.2.2).bind fun t526 => (if t525 = t526 then ((impl_CartOk.f k bt516.1 bt516.2.1 bt516.2.2.1 bt516.2.2.2.1 bt516.2.2.2.2.1 bt516.2.2.2.2.2.1 bt516.2.2.2.2.2.2.1).bind fun t527 => ((spec_CartOk.f k bt516.1 bt516.2.1 bt516.2.2.1 bt516.2.2.2.1 bt516.2.2.2.2.1 bt516.2.2.2.2.2.1 bt516.2.2.2.2.2.2.1).bind fun t528 => (if (t527 != t528) = true then (laws_FnCartReads.j0 k bt516.2.2.2.2.2.2.2 t525 true bt516.1 bt516.2.1 bt516.2.2.1 bt516.2.2.2.1 bt516.2.2.2.2.1 bt516.2.2.2.2.2.1 bt516.2.2.2.2.2.2.1) else (laws_FnCartReads.j0 k bt516.2.2.2.2.2.2.2 t525 (decide (t525 < 0)) bt516.1 bt516.2.1 bt516.2.2.1 bt516.2.2.2.1 bt516.2.2.2.2.1 bt516.2.2.2.2.2.1 bt516.2.2.2.2.2.2.1)))) else (laws_FnCartReads.j0 k bt516.2.2.2.2.2.2.2 t525 true bt516.1 bt516.2.1 bt516.2.2.1 bt516.2.2.2.1 bt516.2.2.2.2.1 bt516.2.2.2.2.2.1 bt516.2.2.2.2.2.2.1))))))
theorem laws_FnCartReads.mono_l : ∀ k, (∀ y0 y1 y2 y3 y4 y5 y6 y7 y8 y9, LeO (laws_FnCartReads.j0 k y0 y1 y2 y3 y4 y5 y6 y7 y8 y9) (laws_FnCartReads.j0 (k + 1) y0 y1 y2 y3 y4 y5 y6 y7 y8 y9))
 | 0 => fun _ _ _ _ _ _ _ _ _ _ r h => by simp [laws_FnCartReads.j0] at h
 | k + 1 => by
  have ih0 := laws_FnCartReads.mono_l k
  ·intro y0 y1 y2 y3 y4 y5 y6 y7 y8 y9
   unfold laws_FnCartReads.j0
   repeat' first
   | (with_reducible first | exact ih0 _ _ _ _ _ _ _ _ _ _ | exact impl_CartOk.mono _ _ _ _ _ _ _ _ | exact impl_CartRead.mono _ _ _ _ _ _ _ _ _ | exact impl_MappedBank.mono _ _ _ _ _ _ _ _ | exact spec_CartOk.mono _ _ _ _ _ _ _ _ | exact spec_CartRead.mono _ _ _ _ _ _ _ _ _ | exact spec_DrawCartRead.mono _ _ | exact spec_MappedBank.mono _ _ _ _ _ _ _ _ | exact LeO.refl _ | exact LeO.none _ | refine LeO.ite ?_ ?_ | refine LeO.bind ?_ (fun _ => ?_))
   | exact ih0 _ _ _ _ _ _ _ _ _ _
   | exact impl_CartOk.mono _ _ _ _ _ _ _ _
   | exact impl_CartRead.mono _ _ _ _ _ _ _ _ _
   | exact impl_MappedBank.mono _ _ _ _ _ _ _ _
   | exact spec_CartOk.mono _ _ _ _ _ _ _ _
   | exact spec_CartRead.mono _ _ _ _ _ _ _ _ _
   | exact spec_DrawCartRead.mono _ _
   | exact spec_MappedBank.mono _ _ _ _ _ _ _ _
   | exact LeO.none _
   | refine LeO.ite ?_ ?_
   | refine LeO.bind ?_ (fun _ => ?_)
theorem laws_FnCartReads.mono : ∀ a0 k, LeO (laws_FnCartReads.f k a0) (laws_FnCartReads.f (k + 1) a0) := by
 intro a0 k
 have ih0 := laws_FnCartReads.mono_l k
 unfold laws_FnCartReads.f
 repeat' first
   | (with_reducible first | exact ih0 _ _ _ _ _ _ _ _ _ _ | exact impl_CartOk.mono _ _ _ _ _ _ _ _ | exact impl_CartRead.mono _ _ _ _ _ _ _ _ _ | exact impl_MappedBank.mono _ _ _ _ _ _ _ _ | exact spec_CartOk.mono _ _ _ _ _ _ _ _ | exact spec_CartRead.mono _ _ _ _ _ _ _ _ _ | exact spec_DrawCartRead.mono _ _ | exact spec_MappedBank.mono _ _ _ _ _ _ _ _ | exact LeO.refl _ | exact LeO.none _ | refine LeO.ite ?_ ?_ | refine LeO.bind ?_ (fun _ => ?_))
   | exact ih0 _ _ _ _ _ _ _ _ _ _
   | exact impl_CartOk.mono _ _ _ _ _ _ _ _
   | exact impl_CartRead.mono _ _ _ _ _ _ _ _ _
   | exact impl_MappedBank.mono _ _ _ _ _ _ _ _
   | exact spec_CartOk.mono _ _ _ _ _ _ _ _
   | exact spec_CartRead.mono _ _ _ _ _ _ _ _ _
   | exact spec_DrawCartRead.mono _ _
   | exact spec_MappedBank.mono _ _ _ _ _ _ _ _
   | exact LeO.none _
   | refine LeO.ite ?_ ?_
   | refine LeO.bind ?_ (fun _ => ?_)
def laws_FnCartReads.T5 : Bool × List (List Nat × List Nat) := (true, [([], []), ([], []), ([], []), ([1, 2], [1, 2]), ([0, 3], [0, 3]), ([4, 3], [4]), ([5], [5]), ([6, 5, 5], [5, 6]), ([5], [5]), ([8, 7, 5], [5, 8]), ([7, 9, 5], [5, 7, 9]), ([5, 10], [5, 10]), ([11, 9], [11]), ([12], [12]), ([13, 12], [12, 13]), ([12, 14], [12, 14])])
def laws_FnCartReads.B5 : List Nat := [0, 0, 0, 6, 15, 31, 63, 127, 63, 511, 1023, 2047, 4095, 8191, 16383, 32767]
theorem laws_FnCartReads.tab5 : rtab .any (opsOf Try.f7 5) = laws_FnCartReads.T5 := by kernel_rfl
theorem laws_FnCartReads.bits5 : waitsOk laws_FnCartReads.T5.2 laws_FnCartReads.B5 = true := by kernel_rfl
def laws_FnCartReads.T6 : Bool × List (List Nat × List Nat) := (true, [([], []), ([], []), ([], []), ([1, 2], [1, 2]), ([0, 3], [0, 3]), ([4, 3], [4]), ([5], [5]), ([6, 5, 5], [5, 6]), ([5], [5]), ([8, 7, 5], [5, 8]), ([7, 9, 5], [5, 7, 9]), ([5, 10], [5, 10]), ([11, 9, 0, 1, 2, 3, 4, 5, 6, 7, 8, 9, 10, 11], [11])])
def laws_FnCartReads.B6 : List Nat := [0, 0, 0, 6, 15, 31, 63, 127, 63, 511, 1023, 2047, 4095]
theorem laws_FnCartReads.tab6 : rtab .any (opsOf Try.f7 6) = laws_FnCartReads.T6 := by kernel_rfl
theorem laws_FnCartReads.bits6 : waitsOk laws_FnCartReads.T6.2 laws_FnCartReads.B6 = true := by kernel_rfl
theorem laws_FnCartReads.calls (k : Nat) (A0 : Option Addr) (c0 : Nat) (l0 : List Int) (r : Bool) (w : World) (hr0 : Kd.C (Kd.int .u8) w A0 l0.length l0) (hc0 : l0.length ≤ c0) (h : laws_FnCartReads.f k l0 = some r) :
  Calls Try.prog 7 #[.slice A0 l0.length c0] w fun e w' => e = .returned (.bool r) ∧ Below w.heap.size w w' := by
 have hu32 := Try.underlying32
 have HR0 := Aside0.mk hr0
 have HC0 := Aside0.mk hc0
 clear hr0 hc0
 have HB := Aside0.mk (Below.refl w.heap.size w)
 have H : ((laws_big.f l0).bind fun t515 => (if t515 = true then (some true) else ((spec_DrawCartRead.f k l0).bind fun bt516 => ((impl_CartRead.f k bt516.1 bt516.2.1 bt516.2.2.1 bt516.2.2.2.1 bt516.2.2.2.2.1 bt516.2.2.2.2.2.1 bt516.2.2.2.2.2.2.1 bt516.2.2.2.2.2.2.2).bind fun t525 => ((spec_CartRead.f k bt516.1 bt516.2.1 bt516.2.2.1 bt516.2.2.2.1 bt516.2.2.2.2.1 bt516.2.2.2.2.2.1 bt516.2.2.2.2.2.2.1 bt516.2.2.2.2.2.2.2).bind fun t526 => (if t525 = t526 then ((impl_CartOk.f k bt516.1 bt516.2.1 bt516.2.2.1 bt516.2.2.2.1 bt516.2.2.2.2.1 bt516.2.2.2.2.2.1 bt516.2.2.2.2.2.2.1).bind fun t527 => ((spec_CartOk.f k bt516.1 bt516.2.1 bt516.2.2.1 bt516.2.2.2.1 bt516.2.2.2.2.1 bt516.2.2.2.2.2.1 bt516.2.2.2.2.2.2.1).bind fun t528 => (if (t527 != t528) = true then (laws_FnCartReads.j0 k bt516.2.2.2.2.2.2.2 t525 true bt516.1 bt516.2.1 bt516.2.2.1 bt516.2.2.2.1 bt516.2.2.2.2.1 bt516.2.2.2.2.2.1 bt516.2.2.2.2.2.2.1) else (laws_FnCartReads.j0 k bt516.2.2.2.2.2.2.2 t525 (decide (t525 < 0)) bt516.1 bt516.2.1 bt516.2.2.1 bt516.2.2.2.1 bt516.2.2.2.2.1 bt516.2.2.2.2.2.1 bt516.2.2.2.2.2.2.1)))) else (laws_FnCartReads.j0 k bt516.2.2.2.2.2.2.2 t525 true bt516.1 bt516.2.1 bt516.2.2.1 bt516.2.2.2.1 bt516.2.2.2.2.1 bt516.2.2.2.2.2.1 bt516.2.2.2.2.2.2.1))))))) = some r := h
 clear h
 replace H := Option.bind_eq_some_iff.mp H
 obtain ⟨t515, A20, H⟩ := H
 have A2 := Aside0.mk A20
 clear A20
 by_cases c3 : t515 = true
 ·subst c3
  replace H : (some true) = some r := by rw [if_pos rfl] at H; exact H
  obtain rfl := Option.some.inj H
  go_enter Try.func7, Try.ntmps7
  go_wp2_with (first | ((with_reducible refine gate_callee (f := 12) rfl ?_); refine goesL_ (some 8) rfl rfl Try.func12 (by kernel_rfl) rfl #[.slice A0 l0.length c0] rfl q74_ ?_; (with_reducible refine (laws_big.calls _ _ l0 true _ ?side1 ?side2 A2.out).mono ?_); (case side1 => exact q136_); (case side2 => exact HC0.out); rintro e w' ⟨rfl, ⟨nd, rfl⟩⟩; refine ⟨_, rfl, ?_⟩))
  go_ret
  exact ⟨q76_, q75_⟩
 ·replace c3 := Bool.eq_false_iff.mpr c3
  subst c3
  replace H : ((spec_DrawCartRead.f k l0).bind fun bt516 => ((impl_CartRead.f k bt516.1 bt516.2.1 bt516.2.2.1 bt516.2.2.2.1 bt516.2.2.2.2.1 bt516.2.2.2.2.2.1 bt516.2.2.2.2.2.2.1 bt516.2.2.2.2.2.2.2).bind fun t525 => ((spec_CartRead.f k bt516.1 bt516.2.1 bt516.2.2.1 bt516.2.2.2.1 bt516.2.2.2.2.1 bt516.2.2.2.2.2.1 bt516.2.2.2.2.2.2.1 bt516.2.2.2.2.2.2.2).bind fun t526 => (if t525 = t526 then ((impl_CartOk.f k bt516.1 bt516.2.1 bt516.2.2.1 bt516.2.2.2.1 bt516.2.2.2.2.1 bt516.2.2.2.2.2.1 bt516.2.2.2.2.2.2.1).bind fun t527 => ((spec_CartOk.f k bt516.1 bt516.2.1 bt516.2.2.1 bt516.2.2.2.1 bt516.2.2.2.2.1 bt516.2.2.2.2.2.1 bt516.2.2.2.2.2.2.1).bind fun t528 => (if (t527 != t528) = true then (laws_FnCartReads.j0 k bt516.2.2.2.2.2.2.2 t525 true bt516.1 bt516.2.1 bt516.2.2.1 bt516.2.2.2.1 bt516.2.2.2.2.1 bt516.2.2.2.2.2.1 bt516.2.2.2.2.2.2.1) else (laws_FnCartReads.j0 k bt516.2.2.2.2.2.2.2 t525 (decide (t525 < 0)) bt516.1 bt516.2.1 bt516.2.2.1 bt516.2.2.2.1 bt516.2.2.2.2.1 bt516.2.2.2.2.2.1 bt516.2.2.2.2.2.2.1)))) else (laws_FnCartReads.j0 k bt516.2.2.2.2.2.2.2 t525 true bt516.1 bt516.2.1 bt516.2.2.1 bt516.2.2.2.1 bt516.2.2.2.2.1 bt516.2.2.2.2.2.1 bt516.2.2.2.2.2.2.1))))) = some r := by rw [if_neg (show ¬ (false = true) by decide)] at H; exact H
  replace H := Option.bind_eq_some_iff.mp H
  obtain ⟨⟨t516, t517, t518, t519, t520, t521, t522, t523⟩, A40, H⟩ := H
  replace H : ((impl_CartRead.f k t516 t517 t518 t519 t520 t521 t522 t523).bind fun t525 => ((spec_CartRead.f k t516 t517 t518 t519 t520 t521 t522 t523).bind fun t526 => (if t525 = t526 then ((impl_CartOk.f k t516 t517 t518 t519 t520 t521 t522).bind fun t527 => ((spec_CartOk.f k t516 t517 t518 t519 t520 t521 t522).bind fun t528 => (if (t527 != t528) = true then (laws_FnCartReads.j0 k t523 t525 true t516 t517 t518 t519 t520 t521 t522) else (laws_FnCartReads.j0 k t523 t525 (decide (t525 < 0)) t516 t517 t518 t519 t520 t521 t522)))) else (laws_FnCartReads.j0 k t523 t525 true t516 t517 t518 t519 t520 t521 t522)))) = some r := H
  have A4 := Aside0.mk A40
  clear A40
  replace H := Option.bind_eq_some_iff.mp H
  obtain ⟨t525, A50, H⟩ := H
  have A5 := Aside0.mk A50
  clear A50
  have HC6 := Aside0.mk H
  clear H
  go_enter Try.func7, Try.ntmps7
  go_upto_region 5 with (first | ((with_reducible refine gate_callee (f := 12) rfl ?_); refine goesL_ (some 8) rfl rfl Try.func12 (by kernel_rfl) rfl #[.slice A0 l0.length c0] rfl q74_ ?_; (with_reducible refine (laws_big.calls _ _ l0 false _ ?side1 ?side2 A2.out).mono ?_); (case side1 => exact q136_); (case side2 => exact HC0.out); rintro e w' ⟨rfl, ⟨nd, rfl⟩⟩; refine ⟨_, rfl, ?_⟩) | ((with_reducible refine gate_callee (f := 21) rfl ?_); refine goesL_ (some 11) rfl rfl Try.func21 (by kernel_rfl) rfl #[.slice A0 l0.length c0] rfl q74_ ?_; (with_reducible refine (spec_DrawCartRead.calls k _ _ l0 t516 t517 t518 t519 t520 t521 t522 t523 _ ?side1 ?side2 A4.out).mono ?_); (case side1 => exact q136_); (case side2 => exact HC0.out); rintro e w7 ⟨rfl, hb⟩; refine ⟨_, rfl, ?_⟩; replace HB := Aside0.mk (below_step q75_ hb); (try clear hb)) | ((with_reducible refine gate_dst (N := 3) rfl ?_); refine box_event ?hg (N := 3) ?hd (cs := #[.string (⟨#[]⟩ : ByteArray), .int .i64 0, .int .i64 0, .string (⟨#[]⟩ : ByteArray), .int .i64 0, .bool false, .int .i64 0]) (t := 32) ?hr ?_; (case hd => rfl); (case hg => rfl); (case hr => exact q138_); intro gb524 hg w8 hbox hb; have n0_ := Aside0.mk (below_step q75_ hb); have n1_ := Aside0.mk (hbox); have n2_ := Aside0.mk ((q52_ : w.heap.size ≤ gb524)); have n3_ := Aside0.mk ((q52_ : w.heap.size ≤ gb524)); clear HB; have HB := n0_; have BK524 := n1_; have GW524 := n2_; have GE524 := n3_; clear n0_ n1_ n2_ n3_; clear hb hbox hg; have hcz9_0 : w8.cell? ⟨gb524, 0, none⟩ = some (.string (⟨#[]⟩ : ByteArray)) := (blk_cell BK524.out 0).trans rfl; have hcz9_1 : w8.cell? ⟨gb524, 1, none⟩ = some (.int .i64 0) := (blk_cell BK524.out 1).trans rfl; have hcz9_2 : w8.cell? ⟨gb524, 2, none⟩ = some (.int .i64 0) := (blk_cell BK524.out 2).trans rfl; have hcz9_3 : w8.cell? ⟨gb524, 3, none⟩ = some (.string (⟨#[]⟩ : ByteArray)) := (blk_cell BK524.out 3).trans rfl; have hcz9_4 : w8.cell? ⟨gb524, 4, none⟩ = some (.int .i64 0) := (blk_cell BK524.out 4).trans rfl; have hcz9_5 : w8.cell? ⟨gb524, 5, none⟩ = some (.bool false) := (blk_cell BK524.out 5).trans rfl; have hcz9_6 : w8.cell? ⟨gb524, 6, none⟩ = some (.int .i64 0) := (blk_cell BK524.out 6).trans rfl; have hfz9_0 := blk_frozen BK524.out 0; have hfz9_1 := blk_frozen BK524.out 1; have hfz9_2 := blk_frozen BK524.out 2; have hfz9_3 := blk_frozen BK524.out 3; have hfz9_4 := blk_frozen BK524.out 4; have hfz9_5 := blk_frozen BK524.out 5; have hfz9_6 := blk_frozen BK524.out 6) | ((with_reducible refine gate_callee (f := 22) rfl ?_); refine goesL_ (some 16) rfl rfl Try.func22 (by kernel_rfl) rfl #[.agg #[.string t516, .int .i64 t517, .int .i64 t518, .string t519, .int .i64 t520, .bool t521, .int .i64 t522], .int .i64 t523] rfl q74_ ?_; (with_reducible refine (impl_CartRead.calls k t516 t517 t518 t519 t520 t521 t522 t523 t525 _ A5.out).mono ?_); rintro e w10 ⟨rfl, hb⟩; refine ⟨_, rfl, ?_⟩; have n0_ := Aside0.mk (blk_below (g := gb524) (o := .cells #[.string t516, .int .i64 t517, .int .i64 t518, .string t519, .int .i64 t520, .bool t521, .int .i64 t522] 32 (0, 0)) (by (with_reducible repeat (first | refine blk_drewN ?_ _ | refine blk_drew ?_ | refine blk_alloc ?_ _)); refine blk_put (cs := #[.string t516, .int .i64 t517, .int .i64 t518, .string t519, .int .i64 t520, .bool t521, .int .i64 0]) ?_ 6 _ rfl; (with_reducible repeat (first | refine blk_drewN ?_ _ | refine blk_drew ?_ | refine blk_alloc ?_ _)); refine blk_put (cs := #[.string t516, .int .i64 t517, .int .i64 t518, .string t519, .int .i64 t520, .bool false, .int .i64 0]) ?_ 5 _ rfl; (with_reducible repeat (first | refine blk_drewN ?_ _ | refine blk_drew ?_ | refine blk_alloc ?_ _)); refine blk_put (cs := #[.string t516, .int .i64 t517, .int .i64 t518, .string t519, .int .i64 0, .bool false, .int .i64 0]) ?_ 4 _ rfl; (with_reducible repeat (first | refine blk_drewN ?_ _ | refine blk_drew ?_ | refine blk_alloc ?_ _)); refine blk_put (cs := #[.string t516, .int .i64 t517, .int .i64 t518, .string (⟨#[]⟩ : ByteArray), .int .i64 0, .bool false, .int .i64 0]) ?_ 3 _ rfl; (with_reducible repeat (first | refine blk_drewN ?_ _ | refine blk_drew ?_ | refine blk_alloc ?_ _)); refine blk_put (cs := #[.string t516, .int .i64 t517, .int .i64 0, .string (⟨#[]⟩ : ByteArray), .int .i64 0, .bool false, .int .i64 0]) ?_ 2 _ rfl; (with_reducible repeat (first | refine blk_drewN ?_ _ | refine blk_drew ?_ | refine blk_alloc ?_ _)); refine blk_put (cs := #[.string t516, .int .i64 0, .int .i64 0, .string (⟨#[]⟩ : ByteArray), .int .i64 0, .bool false, .int .i64 0]) ?_ 1 _ rfl; (with_reducible repeat (first | refine blk_drewN ?_ _ | refine blk_drew ?_ | refine blk_alloc ?_ _)); refine blk_put (cs := #[.string (⟨#[]⟩ : ByteArray), .int .i64 0, .int .i64 0, .string (⟨#[]⟩ : ByteArray), .int .i64 0, .bool false, .int .i64 0]) ?_ 0 _ rfl; (with_reducible repeat (first | refine blk_drewN ?_ _ | refine blk_drew ?_ | refine blk_alloc ?_ _)); exact BK524.out) hb); have n1_ := Aside0.mk (below_step q68_ hb); clear BK524; clear HB; have BK524 := n0_; have HB := n1_; clear n0_ n1_; (try clear hb)))
  (try simp only [Act.put, List.setIfInBounds_toArray, List.set_cons_zero, List.set_cons_succ])
  go_cut [32] (fun v32 wc => ∃ (kq : Nat) (x32_5 : Bool), v32 = .bool x32_5 ∧ Aside0 (laws_FnCartReads.j0 kq t523 t525 x32_5 t516 t517 t518 t519 t520 t521 t522 = some r) ∧ Aside0 (kq ≤ k) ∧ Aside0 (wc.heap[gb524]? = some (.cells #[.string t516, .int .i64 t517, .int .i64 t518, .string t519, .int .i64 t520, .bool t521, .int .i64 t522] 32 (0, 0))) ∧ Aside0 (Below w.heap.size w wc))
  case first =>
   have H := HC6.out
   clear HC6
   replace H := Option.bind_eq_some_iff.mp H
   obtain ⟨t526, A110, H⟩ := H
   have A11 := Aside0.mk A110
   clear A110
   by_cases c12 : t525 = t526
   ·rw [if_pos c12] at H
    have c12b0 : (t525 == t526) = true := beq_iff_eq.mpr c12
    have c12b1 : (t525 != t526) = false := bne_eq_false_iff_eq.mpr c12
    clear c12
    (first | rw [c12b0] | (simp only [i64_w, i32_w]; rw [c12b0]) | skip)
    replace H := Option.bind_eq_some_iff.mp H
    obtain ⟨t527, A130, H⟩ := H
    have A13 := Aside0.mk A130
    clear A130
    replace H := Option.bind_eq_some_iff.mp H
    obtain ⟨t528, A140, H⟩ := H
    have A14 := Aside0.mk A140
    clear A140
    by_cases c15 : (t527 != t528) = true
    ·rw [if_pos c15] at H
     have c15b0 : (t527 != t528) = true := c15
     (try (have c15b1 : decide (t527 = t528) = false := by simpa using c15))
     (try (have c15b2 : (t527 == t528) = false := by simpa using c15))
     (try (have c15b3 : ¬ (t527 = t528) := by simpa using c15))
     clear c15
     have H' := Aside0.mk H
     clear H
     try go_wp2
     have n0_ := Aside0.mk (blk_drew BK524.out)
     have n1_ := Aside0.mk (below_drew1 HB.out)
     clear BK524
     clear HB
     have BK524 := n0_
     have HB := n1_
     clear n0_ n1_
     refine start_ (n := 16) (S := fun w' => w'.cell? ⟨gb524, 0, none⟩ = some (.string t516) ∧ w'.cell? ⟨gb524, 1, none⟩ = some (.int .i64 t517) ∧ w'.cell? ⟨gb524, 2, none⟩ = some (.int .i64 t518) ∧ w'.cell? ⟨gb524, 3, none⟩ = some (.string t519) ∧ w'.cell? ⟨gb524, 4, none⟩ = some (.int .i64 t520) ∧ w'.cell? ⟨gb524, 5, none⟩ = some (.bool t521) ∧ w'.cell? ⟨gb524, 6, none⟩ = some (.int .i64 t522)) (ds := []) #[false, false, false, false, false, false, false, false, false, false, false, false, false, false, false, false] (by kernel_rfl) rfl rfl ⟨(blk_cell BK524.out 0).trans rfl, (blk_cell BK524.out 1).trans rfl, (blk_cell BK524.out 2).trans rfl, (blk_cell BK524.out 3).trans rfl, (blk_cell BK524.out 4).trans rfl, (blk_cell BK524.out 5).trans rfl, (blk_cell BK524.out 6).trans rfl⟩ (fun hHeld => ?_); refine with_tabW laws_FnCartReads.tab5 laws_FnCartReads.bits5 (fun HT_ HW_ => ?_)
     generalize w10.drew = w16 at BK524 HB hHeld ⊢
     refine pure_ (i := 0) (N := some 17) (v := ?_) (a' := ?_) #[true, false, false, false, false, false, false, false, false, false, false, false, false, false, false, false] rfl rfl (any_of HT_.out (by kernel_rfl)) (fun _ _ _ h => h) (Or.inl ⟨by rfl, ?_⟩) ?_ ?_
     rotate_left
     ·intro w'
      go_simp
      with_reducible rfl
     rotate_left
     ·simp only [Act.put, List.setIfInBounds_toArray, List.set_cons_zero, List.set_cons_succ, i64_w, i32_w]
      rfl
     refine pure_ (i := 2) (N := some 19) (v := ?_) (a' := ?_) #[true, false, true, false, false, false, false, false, false, false, false, false, false, false, false, false] rfl rfl (any_of HT_.out (by kernel_rfl)) (fun _ _ _ h => h) (Or.inl ⟨by rfl, ?_⟩) ?_ ?_
     rotate_left
     ·intro w'
      go_simp
      with_reducible rfl
     rotate_left
     ·simp only [Act.put, List.setIfInBounds_toArray, List.set_cons_zero, List.set_cons_succ, i64_w, i32_w]
      rfl
     refine take_ (i := 1) (N := some 18) (v := ?_) (a' := ?_) #[true, true, true, false, false, false, false, false, false, false, false, false, false, false, false, false] rfl rfl (take_ofW HT_.out HW_.out (by kernel_rfl)) (fun _ _ _ h => h) (Or.inl ⟨by rfl, ?_⟩) hHeld ?_ ?_
     rotate_left
     ·rintro w' ⟨s0, s1, s2, s3, s4, s5, s6⟩
      go_simp
      with_reducible rfl
     rotate_left
     ·simp only [Act.put, List.setIfInBounds_toArray, List.set_cons_zero, List.set_cons_succ, i64_w, i32_w]
      rfl
     refine one_ (i := 3) (N := some 20) #[true, true, true, true, false, false, false, false, false, false, false, false, false, false, false, false] rfl rfl (one_of HT_.out (by kernel_rfl)) (by decide) (fun K hK => ?_)
     refine goes_ Try.func23 (by kernel_rfl) rfl #[.agg #[.string t516, .int .i64 t517, .int .i64 t518, .string t519, .int .i64 t520, .bool t521, .int .i64 t522], .int .i64 t523] (by rfl) rfl rfl q74_ ?_
     with_reducible refine (spec_CartRead.calls k t516 t517 t518 t519 t520 t521 t522 t523 t526 _ A11.out).mono ?_
     rintro e w17 ⟨rfl, hb⟩
     refine ⟨_, rfl, ?_⟩
     have n0_ := Aside0.mk (blk_below (g := gb524) (o := .cells #[.string t516, .int .i64 t517, .int .i64 t518, .string t519, .int .i64 t520, .bool t521, .int .i64 t522] 32 (0, 0)) q99_ hb)
     have n1_ := Aside0.mk (below_step q68_ hb)
     clear BK524
     clear HB
     have BK524 := n0_
     have HB := n1_
     clear n0_ n1_
     (try clear hb)
     (try clear hb2)
     (try clear hk)
     (try clear hi)
     refine hK.out _ _ ⟨(blk_cell BK524.out 0).trans rfl, (blk_cell BK524.out 1).trans rfl, (blk_cell BK524.out 2).trans rfl, (blk_cell BK524.out 3).trans rfl, (blk_cell BK524.out 4).trans rfl, (blk_cell BK524.out 5).trans rfl, (blk_cell BK524.out 6).trans rfl⟩ (fun hHeld => ?_)
     clear hK K
     refine norm_ (a' := ?_) ?_ ?_
     rotate_left
     ·show Act.put _ (some 20) _ = _
      simp only [Act.put, List.setIfInBounds_toArray, List.set_cons_zero, List.set_cons_succ, i64_w, i32_w]
      rfl
     refine pure_ (i := 4) (N := some 21) (v := ?_) (a' := ?_) #[true, true, true, true, true, false, false, false, false, false, false, false, false, false, false, false] rfl rfl (any_of HT_.out (by kernel_rfl)) (fun _ _ _ h => h) (Or.inl ⟨by rfl, ?_⟩) ?_ ?_
     rotate_left
     ·intro w'
      go_simp
      with_reducible rfl
     rotate_left
     ·simp only [Act.put, List.setIfInBounds_toArray, List.set_cons_zero, List.set_cons_succ, i64_w, i32_w]
      rfl
     refine pure_ (i := 5) (N := some 22) (v := ?_) (a' := ?_) #[true, true, true, true, true, true, false, false, false, false, false, false, false, false, false, false] rfl rfl (any_of HT_.out (by kernel_rfl)) (fun _ _ _ h => h) (Or.inl ⟨by rfl, ?_⟩) ?_ ?_
     rotate_left
     ·intro w'
      go_simp
      with_reducible rfl
     rotate_left
     ·simp only [Act.put, List.setIfInBounds_toArray, List.set_cons_zero, List.set_cons_succ, i64_w, i32_w]
      rfl
     refine take_ (i := 6) (N := some 23) (v := ?_) (a' := ?_) #[true, true, true, true, true, true, true, false, false, false, false, false, false, false, false, false] rfl rfl (take_ofW HT_.out HW_.out (by kernel_rfl)) (fun _ _ _ h => h) (Or.inl ⟨by rfl, ?_⟩) hHeld ?_ ?_
     rotate_left
     ·rintro w' ⟨s0, s1, s2, s3, s4, s5, s6⟩
      go_simp
      with_reducible rfl
     rotate_left
     ·simp only [Act.put, List.setIfInBounds_toArray, List.set_cons_zero, List.set_cons_succ, i64_w, i32_w]
      rfl
     refine take_ (i := 8) (N := some 25) (v := ?_) (a' := ?_) #[true, true, true, true, true, true, true, false, true, false, false, false, false, false, false, false] rfl rfl (take_ofW HT_.out HW_.out (by kernel_rfl)) (fun _ _ _ h => h) (Or.inl ⟨by rfl, ?_⟩) hHeld ?_ ?_
     rotate_left
     ·rintro w' ⟨s0, s1, s2, s3, s4, s5, s6⟩
      go_simp
      with_reducible rfl
     rotate_left
     ·simp only [Act.put, List.setIfInBounds_toArray, List.set_cons_zero, List.set_cons_succ, i64_w, i32_w]
      rfl
     refine one_ (i := 7) (N := some 24) #[true, true, true, true, true, true, true, true, true, false, false, false, false, false, false, false] rfl rfl (one_of HT_.out (by kernel_rfl)) (by decide) (fun K hK => ?_)
     refine goes_ Try.func24 (by kernel_rfl) rfl #[.agg #[.string t516, .int .i64 t517, .int .i64 t518, .string t519, .int .i64 t520, .bool t521, .int .i64 t522]] (by rfl) rfl rfl q74_ ?_
     with_reducible refine (impl_CartOk.calls k t516 t517 t518 t519 t520 t521 t522 t527 _ A13.out).mono ?_
     rintro e w18 ⟨rfl, hb⟩
     refine ⟨_, rfl, ?_⟩
     have n0_ := Aside0.mk (blk_below (g := gb524) (o := .cells #[.string t516, .int .i64 t517, .int .i64 t518, .string t519, .int .i64 t520, .bool t521, .int .i64 t522] 32 (0, 0)) q99_ hb)
     have n1_ := Aside0.mk (below_step q68_ hb)
     clear BK524
     clear HB
     have BK524 := n0_
     have HB := n1_
     clear n0_ n1_
     (try clear hb)
     (try clear hb2)
     (try clear hk)
     (try clear hi)
     refine hK.out _ _ ⟨(blk_cell BK524.out 0).trans rfl, (blk_cell BK524.out 1).trans rfl, (blk_cell BK524.out 2).trans rfl, (blk_cell BK524.out 3).trans rfl, (blk_cell BK524.out 4).trans rfl, (blk_cell BK524.out 5).trans rfl, (blk_cell BK524.out 6).trans rfl⟩ (fun hHeld => ?_)
     clear hK K
     refine norm_ (a' := ?_) ?_ ?_
     rotate_left
     ·show Act.put _ (some 24) _ = _
      simp only [Act.put, List.setIfInBounds_toArray, List.set_cons_zero, List.set_cons_succ, i64_w, i32_w]
      rfl
     refine one_ (i := 9) (N := some 26) #[true, true, true, true, true, true, true, true, true, true, false, false, false, false, false, false] rfl rfl (one_of HT_.out (by kernel_rfl)) (by decide) (fun K hK => ?_)
     refine goes_ Try.func25 (by kernel_rfl) rfl #[.agg #[.string t516, .int .i64 t517, .int .i64 t518, .string t519, .int .i64 t520, .bool t521, .int .i64 t522]] (by rfl) rfl rfl q74_ ?_
     with_reducible refine (spec_CartOk.calls k t516 t517 t518 t519 t520 t521 t522 t528 _ A14.out).mono ?_
     rintro e w19 ⟨rfl, hb⟩
     refine ⟨_, rfl, ?_⟩
     have n0_ := Aside0.mk (blk_below (g := gb524) (o := .cells #[.string t516, .int .i64 t517, .int .i64 t518, .string t519, .int .i64 t520, .bool t521, .int .i64 t522] 32 (0, 0)) q99_ hb)
     have n1_ := Aside0.mk (below_step q68_ hb)
     clear BK524
     clear HB
     have BK524 := n0_
     have HB := n1_
     clear n0_ n1_
     (try clear hb)
     (try clear hb2)
     (try clear hk)
     (try clear hi)
     refine hK.out _ _ ⟨(blk_cell BK524.out 0).trans rfl, (blk_cell BK524.out 1).trans rfl, (blk_cell BK524.out 2).trans rfl, (blk_cell BK524.out 3).trans rfl, (blk_cell BK524.out 4).trans rfl, (blk_cell BK524.out 5).trans rfl, (blk_cell BK524.out 6).trans rfl⟩ (fun hHeld => ?_)
     clear hK K
     refine norm_ (a' := ?_) ?_ ?_
     rotate_left
     ·show Act.put _ (some 26) _ = _
      simp only [Act.put, List.setIfInBounds_toArray, List.set_cons_zero, List.set_cons_succ, i64_w, i32_w]
      rfl
     refine pure_ (i := 10) (N := some 27) (v := ?_) (a' := ?_) #[true, true, true, true, true, true, true, true, true, true, true, false, false, false, false, false] rfl rfl (any_of HT_.out (by kernel_rfl)) (fun _ _ _ h => h) (Or.inl ⟨by rfl, ?_⟩) ?_ ?_
     rotate_left
     ·intro w'
      go_simp
      with_reducible rfl
     rotate_left
     ·simp only [Act.put, List.setIfInBounds_toArray, List.set_cons_zero, List.set_cons_succ, i64_w, i32_w]
      rfl
     refine pure_ (i := 11) (N := some 28) (v := ?_) (a' := ?_) #[true, true, true, true, true, true, true, true, true, true, true, true, false, false, false, false] rfl rfl (any_of HT_.out (by kernel_rfl)) (fun _ _ _ h => h) (Or.inl ⟨by rfl, ?_⟩) ?_ ?_
     rotate_left
     ·intro w'
      go_simp
      with_reducible rfl
     rotate_left
     ·simp only [Act.put, List.setIfInBounds_toArray, List.set_cons_zero, List.set_cons_succ, i64_w, i32_w]
      rfl
     refine pure_ (i := 12) (N := some 29) (v := ?_) (a' := ?_) #[true, true, true, true, true, true, true, true, true, true, true, true, true, false, false, false] rfl rfl (any_of HT_.out (by kernel_rfl)) (fun _ _ _ h => h) (Or.inl ⟨by rfl, ?_⟩) ?_ ?_
     rotate_left
     ·intro w'
      go_simp
      with_reducible rfl
     rotate_left
     ·simp only [Act.put, List.setIfInBounds_toArray, List.set_cons_zero, List.set_cons_succ, i64_w, i32_w]
      rfl
     refine pure_ (i := 13) (N := some 30) (v := undef) (a' := ?_) #[true, true, true, true, true, true, true, true, true, true, true, true, true, true, false, false] rfl rfl (any_of HT_.out (by kernel_rfl)) (fun _ _ _ h => h) (Or.inr ⟨by rfl, rfl⟩) ?_ ?_
     rotate_left
     ·simp only [Act.put, List.setIfInBounds_toArray, List.set_cons_zero, List.set_cons_succ, i64_w, i32_w]
      rfl
     refine pure_ (i := 14) (N := some 31) (v := undef) (a' := ?_) #[true, true, true, true, true, true, true, true, true, true, true, true, true, true, true, false] rfl rfl (any_of HT_.out (by kernel_rfl)) (fun _ _ _ h => h) (Or.inr ⟨by rfl, rfl⟩) ?_ ?_
     rotate_left
     ·simp only [Act.put, List.setIfInBounds_toArray, List.set_cons_zero, List.set_cons_succ, i64_w, i32_w]
      rfl
     refine pure_ (i := 15) (N := some 32) (v := ?_) (a' := ?_) #[true, true, true, true, true, true, true, true, true, true, true, true, true, true, true, true] rfl rfl (any_of HT_.out (by kernel_rfl)) (fun _ _ _ h => h) (Or.inl ⟨by rfl, ?_⟩) ?_ ?_
     rotate_left
     ·intro w'
      go_simp
      with_reducible rfl
     rotate_left
     ·simp only [Act.put, List.setIfInBounds_toArray, List.set_cons_zero, List.set_cons_succ, i64_w, i32_w]
      rfl
     refine done_ (done_of HT_.out (by kernel_rfl)) ?_
     try go_wp2
     go_meet
     case rel => exact ⟨_, (true), q101_, H', ⟨q121_⟩, ⟨q99_⟩, ⟨q68_⟩⟩
    ·rw [if_neg c15] at H
     have c15b0 : (t527 != t528) = false := by simpa using c15
     (try (have c15b1 : decide (t527 = t528) = true := by simpa using c15))
     (try (have c15b2 : (t527 == t528) = true := by simpa using c15))
     clear c15
     have H' := Aside0.mk H
     clear H
     try go_wp2
     have n0_ := Aside0.mk (blk_drew BK524.out)
     have n1_ := Aside0.mk (below_drew1 HB.out)
     clear BK524
     clear HB
     have BK524 := n0_
     have HB := n1_
     clear n0_ n1_
     refine start_ (n := 16) (S := fun w' => w'.cell? ⟨gb524, 0, none⟩ = some (.string t516) ∧ w'.cell? ⟨gb524, 1, none⟩ = some (.int .i64 t517) ∧ w'.cell? ⟨gb524, 2, none⟩ = some (.int .i64 t518) ∧ w'.cell? ⟨gb524, 3, none⟩ = some (.string t519) ∧ w'.cell? ⟨gb524, 4, none⟩ = some (.int .i64 t520) ∧ w'.cell? ⟨gb524, 5, none⟩ = some (.bool t521) ∧ w'.cell? ⟨gb524, 6, none⟩ = some (.int .i64 t522)) (ds := []) #[false, false, false, false, false, false, false, false, false, false, false, false, false, false, false, false] (by kernel_rfl) rfl rfl ⟨(blk_cell BK524.out 0).trans rfl, (blk_cell BK524.out 1).trans rfl, (blk_cell BK524.out 2).trans rfl, (blk_cell BK524.out 3).trans rfl, (blk_cell BK524.out 4).trans rfl, (blk_cell BK524.out 5).trans rfl, (blk_cell BK524.out 6).trans rfl⟩ (fun hHeld => ?_); refine with_tabW laws_FnCartReads.tab5 laws_FnCartReads.bits5 (fun HT_ HW_ => ?_)
     generalize w10.drew = w20 at BK524 HB hHeld ⊢
     refine pure_ (i := 0) (N := some 17) (v := ?_) (a' := ?_) #[true, false, false, false, false, false, false, false, false, false, false, false, false, false, false, false] rfl rfl (any_of HT_.out (by kernel_rfl)) (fun _ _ _ h => h) (Or.inl ⟨by rfl, ?_⟩) ?_ ?_
     rotate_left
     ·intro w'
      go_simp
      with_reducible rfl
     rotate_left
     ·simp only [Act.put, List.setIfInBounds_toArray, List.set_cons_zero, List.set_cons_succ, i64_w, i32_w]
      rfl
     refine pure_ (i := 2) (N := some 19) (v := ?_) (a' := ?_) #[true, false, true, false, false, false, false, false, false, false, false, false, false, false, false, false] rfl rfl (any_of HT_.out (by kernel_rfl)) (fun _ _ _ h => h) (Or.inl ⟨by rfl, ?_⟩) ?_ ?_
     rotate_left
     ·intro w'
      go_simp
      with_reducible rfl
     rotate_left
     ·simp only [Act.put, List.setIfInBounds_toArray, List.set_cons_zero, List.set_cons_succ, i64_w, i32_w]
      rfl
     refine take_ (i := 1) (N := some 18) (v := ?_) (a' := ?_) #[true, true, true, false, false, false, false, false, false, false, false, false, false, false, false, false] rfl rfl (take_ofW HT_.out HW_.out (by kernel_rfl)) (fun _ _ _ h => h) (Or.inl ⟨by rfl, ?_⟩) hHeld ?_ ?_
     rotate_left
     ·rintro w' ⟨s0, s1, s2, s3, s4, s5, s6⟩
      go_simp
      with_reducible rfl
     rotate_left
     ·simp only [Act.put, List.setIfInBounds_toArray, List.set_cons_zero, List.set_cons_succ, i64_w, i32_w]
      rfl
     refine one_ (i := 3) (N := some 20) #[true, true, true, true, false, false, false, false, false, false, false, false, false, false, false, false] rfl rfl (one_of HT_.out (by kernel_rfl)) (by decide) (fun K hK => ?_)
     refine goes_ Try.func23 (by kernel_rfl) rfl #[.agg #[.string t516, .int .i64 t517, .int .i64 t518, .string t519, .int .i64 t520, .bool t521, .int .i64 t522], .int .i64 t523] (by rfl) rfl rfl q74_ ?_
     with_reducible refine (spec_CartRead.calls k t516 t517 t518 t519 t520 t521 t522 t523 t526 _ A11.out).mono ?_
     rintro e w21 ⟨rfl, hb⟩
     refine ⟨_, rfl, ?_⟩
     have n0_ := Aside0.mk (blk_below (g := gb524) (o := .cells #[.string t516, .int .i64 t517, .int .i64 t518, .string t519, .int .i64 t520, .bool t521, .int .i64 t522] 32 (0, 0)) q99_ hb)
     have n1_ := Aside0.mk (below_step q68_ hb)
     clear BK524
     clear HB
     have BK524 := n0_
     have HB := n1_
     clear n0_ n1_
     (try clear hb)
     (try clear hb2)
     (try clear hk)
     (try clear hi)
     refine hK.out _ _ ⟨(blk_cell BK524.out 0).trans rfl, (blk_cell BK524.out 1).trans rfl, (blk_cell BK524.out 2).trans rfl, (blk_cell BK524.out 3).trans rfl, (blk_cell BK524.out 4).trans rfl, (blk_cell BK524.out 5).trans rfl, (blk_cell BK524.out 6).trans rfl⟩ (fun hHeld => ?_)
     clear hK K
     refine norm_ (a' := ?_) ?_ ?_
     rotate_left
     ·show Act.put _ (some 20) _ = _
      simp only [Act.put, List.setIfInBounds_toArray, List.set_cons_zero, List.set_cons_succ, i64_w, i32_w]
      rfl
     refine pure_ (i := 4) (N := some 21) (v := ?_) (a' := ?_) #[true, true, true, true, true, false, false, false, false, false, false, false, false, false, false, false] rfl rfl (any_of HT_.out (by kernel_rfl)) (fun _ _ _ h => h) (Or.inl ⟨by rfl, ?_⟩) ?_ ?_
     rotate_left
     ·intro w'
      go_simp
      with_reducible rfl
     rotate_left
     ·simp only [Act.put, List.setIfInBounds_toArray, List.set_cons_zero, List.set_cons_succ, i64_w, i32_w]
      rfl
     refine pure_ (i := 5) (N := some 22) (v := ?_) (a' := ?_) #[true, true, true, true, true, true, false, false, false, false, false, false, false, false, false, false] rfl rfl (any_of HT_.out (by kernel_rfl)) (fun _ _ _ h => h) (Or.inl ⟨by rfl, ?_⟩) ?_ ?_
     rotate_left
     ·intro w'
      go_simp
      with_reducible rfl
     rotate_left
     ·simp only [Act.put, List.setIfInBounds_toArray, List.set_cons_zero, List.set_cons_succ, i64_w, i32_w]
      rfl
     refine take_ (i := 6) (N := some 23) (v := ?_) (a' := ?_) #[true, true, true, true, true, true, true, false, false, false, false, false, false, false, false, false] rfl rfl (take_ofW HT_.out HW_.out (by kernel_rfl)) (fun _ _ _ h => h) (Or.inl ⟨by rfl, ?_⟩) hHeld ?_ ?_
     rotate_left
     ·rintro w' ⟨s0, s1, s2, s3, s4, s5, s6⟩
      go_simp
      with_reducible rfl
     rotate_left
     ·simp only [Act.put, List.setIfInBounds_toArray, List.set_cons_zero, List.set_cons_succ, i64_w, i32_w]
      rfl
     refine take_ (i := 8) (N := some 25) (v := ?_) (a' := ?_) #[true, true, true, true, true, true, true, false, true, false, false, false, false, false, false, false] rfl rfl (take_ofW HT_.out HW_.out (by kernel_rfl)) (fun _ _ _ h => h) (Or.inl ⟨by rfl, ?_⟩) hHeld ?_ ?_
     rotate_left
     ·rintro w' ⟨s0, s1, s2, s3, s4, s5, s6⟩
      go_simp
      with_reducible rfl
     rotate_left
     ·simp only [Act.put, List.setIfInBounds_toArray, List.set_cons_zero, List.set_cons_succ, i64_w, i32_w]
      rfl
     refine one_ (i := 7) (N := some 24) #[true, true, true, true, true, true, true, true, true, false, false, false, false, false, false, false] rfl rfl (one_of HT_.out (by kernel_rfl)) (by decide) (fun K hK => ?_)
     refine goes_ Try.func24 (by kernel_rfl) rfl #[.agg #[.string t516, .int .i64 t517, .int .i64 t518, .string t519, .int .i64 t520, .bool t521, .int .i64 t522]] (by rfl) rfl rfl q74_ ?_
     with_reducible refine (impl_CartOk.calls k t516 t517 t518 t519 t520 t521 t522 t527 _ A13.out).mono ?_
     rintro e w22 ⟨rfl, hb⟩
     refine ⟨_, rfl, ?_⟩
     have n0_ := Aside0.mk (blk_below (g := gb524) (o := .cells #[.string t516, .int .i64 t517, .int .i64 t518, .string t519, .int .i64 t520, .bool t521, .int .i64 t522] 32 (0, 0)) q99_ hb)
     have n1_ := Aside0.mk (below_step q68_ hb)
     clear BK524
     clear HB
     have BK524 := n0_
     have HB := n1_
     clear n0_ n1_
     (try clear hb)
     (try clear hb2)
     (try clear hk)
     (try clear hi)
     refine hK.out _ _ ⟨(blk_cell BK524.out 0).trans rfl, (blk_cell BK524.out 1).trans rfl, (blk_cell BK524.out 2).trans rfl, (blk_cell BK524.out 3).trans rfl, (blk_cell BK524.out 4).trans rfl, (blk_cell BK524.out 5).trans rfl, (blk_cell BK524.out 6).trans rfl⟩ (fun hHeld => ?_)
     clear hK K
     refine norm_ (a' := ?_) ?_ ?_
     rotate_left
     ·show Act.put _ (some 24) _ = _
      simp only [Act.put, List.setIfInBounds_toArray, List.set_cons_zero, List.set_cons_succ, i64_w, i32_w]
      rfl
     refine one_ (i := 9) (N := some 26) #[true, true, true, true, true, true, true, true, true, true, false, false, false, false, false, false] rfl rfl (one_of HT_.out (by kernel_rfl)) (by decide) (fun K hK => ?_)
     refine goes_ Try.func25 (by kernel_rfl) rfl #[.agg #[.string t516, .int .i64 t517, .int .i64 t518, .string t519, .int .i64 t520, .bool t521, .int .i64 t522]] (by rfl) rfl rfl q74_ ?_
     with_reducible refine (spec_CartOk.calls k t516 t517 t518 t519 t520 t521 t522 t528 _ A14.out).mono ?_
     rintro e w23 ⟨rfl, hb⟩
     refine ⟨_, rfl, ?_⟩
     have n0_ := Aside0.mk (blk_below (g := gb524) (o := .cells #[.string t516, .int .i64 t517, .int .i64 t518, .string t519, .int .i64 t520, .bool t521, .int .i64 t522] 32 (0, 0)) q99_ hb)
     have n1_ := Aside0.mk (below_step q68_ hb)
     clear BK524
     clear HB
     have BK524 := n0_
     have HB := n1_
     clear n0_ n1_
     (try clear hb)
     (try clear hb2)
     (try clear hk)
     (try clear hi)
     refine hK.out _ _ ⟨(blk_cell BK524.out 0).trans rfl, (blk_cell BK524.out 1).trans rfl, (blk_cell BK524.out 2).trans rfl, (blk_cell BK524.out 3).trans rfl, (blk_cell BK524.out 4).trans rfl, (blk_cell BK524.out 5).trans rfl, (blk_cell BK524.out 6).trans rfl⟩ (fun hHeld => ?_)
     clear hK K
     refine norm_ (a' := ?_) ?_ ?_
     rotate_left
     ·show Act.put _ (some 26) _ = _
      simp only [Act.put, List.setIfInBounds_toArray, List.set_cons_zero, List.set_cons_succ, i64_w, i32_w]
      rfl
     refine pure_ (i := 10) (N := some 27) (v := ?_) (a' := ?_) #[true, true, true, true, true, true, true, true, true, true, true, false, false, false, false, false] rfl rfl (any_of HT_.out (by kernel_rfl)) (fun _ _ _ h => h) (Or.inl ⟨by rfl, ?_⟩) ?_ ?_
     rotate_left
     ·intro w'
      go_simp
      with_reducible rfl
     rotate_left
     ·simp only [Act.put, List.setIfInBounds_toArray, List.set_cons_zero, List.set_cons_succ, i64_w, i32_w]
      rfl
     refine pure_ (i := 11) (N := some 28) (v := ?_) (a' := ?_) #[true, true, true, true, true, true, true, true, true, true, true, true, false, false, false, false] rfl rfl (any_of HT_.out (by kernel_rfl)) (fun _ _ _ h => h) (Or.inl ⟨by rfl, ?_⟩) ?_ ?_
     rotate_left
     ·intro w'
      go_simp
      with_reducible rfl
     rotate_left
     ·simp only [Act.put, List.setIfInBounds_toArray, List.set_cons_zero, List.set_cons_succ, i64_w, i32_w]
      rfl
     refine pure_ (i := 12) (N := some 29) (v := ?_) (a' := ?_) #[true, true, true, true, true, true, true, true, true, true, true, true, true, false, false, false] rfl rfl (any_of HT_.out (by kernel_rfl)) (fun _ _ _ h => h) (Or.inl ⟨by rfl, ?_⟩) ?_ ?_
     rotate_left
     ·intro w'
      go_simp
      with_reducible rfl
     rotate_left
     ·simp only [Act.put, List.setIfInBounds_toArray, List.set_cons_zero, List.set_cons_succ, i64_w, i32_w]
      rfl
     refine pure_ (i := 13) (N := some 30) (v := ?_) (a' := ?_) #[true, true, true, true, true, true, true, true, true, true, true, true, true, true, false, false] rfl rfl (any_of HT_.out (by kernel_rfl)) (fun _ _ _ h => h) (Or.inl ⟨by rfl, ?_⟩) ?_ ?_
     rotate_left
     ·intro w'
      go_simp
      with_reducible rfl
     rotate_left
     ·simp only [Act.put, List.setIfInBounds_toArray, List.set_cons_zero, List.set_cons_succ, i64_w, i32_w]
      rfl
     refine pure_ (i := 14) (N := some 31) (v := ?_) (a' := ?_) #[true, true, true, true, true, true, true, true, true, true, true, true, true, true, true, false] rfl rfl (any_of HT_.out (by kernel_rfl)) (fun _ _ _ h => h) (Or.inl ⟨by rfl, ?_⟩) ?_ ?_
     rotate_left
     ·intro w'
      go_simp
      with_reducible rfl
     rotate_left
     ·simp only [Act.put, List.setIfInBounds_toArray, List.set_cons_zero, List.set_cons_succ, i64_w, i32_w]
      rfl
     refine pure_ (i := 15) (N := some 32) (v := ?_) (a' := ?_) #[true, true, true, true, true, true, true, true, true, true, true, true, true, true, true, true] rfl rfl (any_of HT_.out (by kernel_rfl)) (fun _ _ _ h => h) (Or.inl ⟨by rfl, ?_⟩) ?_ ?_
     rotate_left
     ·intro w'
      go_simp
      with_reducible rfl
     rotate_left
     ·simp only [Act.put, List.setIfInBounds_toArray, List.set_cons_zero, List.set_cons_succ, i64_w, i32_w]
      rfl
     refine done_ (done_of HT_.out (by kernel_rfl)) ?_
     try go_wp2
     go_meet
     case rel => exact ⟨_, (decide (t525 < 0)), q101_, H', ⟨q121_⟩, ⟨q99_⟩, ⟨q68_⟩⟩
   ·rw [if_neg c12] at H
    have c12b0 : (t525 == t526) = false := beq_eq_false_iff_ne.mpr c12
    have c12b1 : (t525 != t526) = true := bne_iff_ne.mpr c12
    (first | rw [c12b0] | (simp only [i64_w, i32_w]; rw [c12b0]) | skip)
    have H' := Aside0.mk H
    clear H
    try go_wp2
    have n0_ := Aside0.mk (blk_drew BK524.out)
    have n1_ := Aside0.mk (below_drew1 HB.out)
    clear BK524
    clear HB
    have BK524 := n0_
    have HB := n1_
    clear n0_ n1_
    refine start_ (n := 16) (S := fun w' => w'.cell? ⟨gb524, 0, none⟩ = some (.string t516) ∧ w'.cell? ⟨gb524, 1, none⟩ = some (.int .i64 t517) ∧ w'.cell? ⟨gb524, 2, none⟩ = some (.int .i64 t518) ∧ w'.cell? ⟨gb524, 3, none⟩ = some (.string t519) ∧ w'.cell? ⟨gb524, 4, none⟩ = some (.int .i64 t520) ∧ w'.cell? ⟨gb524, 5, none⟩ = some (.bool t521) ∧ w'.cell? ⟨gb524, 6, none⟩ = some (.int .i64 t522)) (ds := []) #[false, false, false, false, false, false, false, false, false, false, false, false, false, false, false, false] (by kernel_rfl) rfl rfl ⟨(blk_cell BK524.out 0).trans rfl, (blk_cell BK524.out 1).trans rfl, (blk_cell BK524.out 2).trans rfl, (blk_cell BK524.out 3).trans rfl, (blk_cell BK524.out 4).trans rfl, (blk_cell BK524.out 5).trans rfl, (blk_cell BK524.out 6).trans rfl⟩ (fun hHeld => ?_); refine with_tabW laws_FnCartReads.tab5 laws_FnCartReads.bits5 (fun HT_ HW_ => ?_)
    generalize w10.drew = w24 at BK524 HB hHeld ⊢
    refine pure_ (i := 0) (N := some 17) (v := ?_) (a' := ?_) #[true, false, false, false, false, false, false, false, false, false, false, false, false, false, false, false] rfl rfl (any_of HT_.out (by kernel_rfl)) (fun _ _ _ h => h) (Or.inl ⟨by rfl, ?_⟩) ?_ ?_
    rotate_left
    ·intro w'
     go_simp
     with_reducible rfl
    rotate_left
    ·simp only [Act.put, List.setIfInBounds_toArray, List.set_cons_zero, List.set_cons_succ, i64_w, i32_w]
     rfl
    refine pure_ (i := 2) (N := some 19) (v := ?_) (a' := ?_) #[true, false, true, false, false, false, false, false, false, false, false, false, false, false, false, false] rfl rfl (any_of HT_.out (by kernel_rfl)) (fun _ _ _ h => h) (Or.inl ⟨by rfl, ?_⟩) ?_ ?_
    rotate_left
    ·intro w'
     go_simp
     with_reducible rfl
    rotate_left
    ·simp only [Act.put, List.setIfInBounds_toArray, List.set_cons_zero, List.set_cons_succ, i64_w, i32_w]
     rfl
    refine take_ (i := 1) (N := some 18) (v := ?_) (a' := ?_) #[true, true, true, false, false, false, false, false, false, false, false, false, false, false, false, false] rfl rfl (take_ofW HT_.out HW_.out (by kernel_rfl)) (fun _ _ _ h => h) (Or.inl ⟨by rfl, ?_⟩) hHeld ?_ ?_
    rotate_left
    ·rintro w' ⟨s0, s1, s2, s3, s4, s5, s6⟩
     go_simp
     with_reducible rfl
    rotate_left
    ·simp only [Act.put, List.setIfInBounds_toArray, List.set_cons_zero, List.set_cons_succ, i64_w, i32_w]
     rfl
    refine one_ (i := 3) (N := some 20) #[true, true, true, true, false, false, false, false, false, false, false, false, false, false, false, false] rfl rfl (one_of HT_.out (by kernel_rfl)) (by decide) (fun K hK => ?_)
    refine goes_ Try.func23 (by kernel_rfl) rfl #[.agg #[.string t516, .int .i64 t517, .int .i64 t518, .string t519, .int .i64 t520, .bool t521, .int .i64 t522], .int .i64 t523] (by rfl) rfl rfl q74_ ?_
    with_reducible refine (spec_CartRead.calls k t516 t517 t518 t519 t520 t521 t522 t523 t526 _ A11.out).mono ?_
    rintro e w25 ⟨rfl, hb⟩
    refine ⟨_, rfl, ?_⟩
    have n0_ := Aside0.mk (blk_below (g := gb524) (o := .cells #[.string t516, .int .i64 t517, .int .i64 t518, .string t519, .int .i64 t520, .bool t521, .int .i64 t522] 32 (0, 0)) q99_ hb)
    have n1_ := Aside0.mk (below_step q68_ hb)
    clear BK524
    clear HB
    have BK524 := n0_
    have HB := n1_
    clear n0_ n1_
    (try clear hb)
    (try clear hb2)
    (try clear hk)
    (try clear hi)
    refine hK.out _ _ ⟨(blk_cell BK524.out 0).trans rfl, (blk_cell BK524.out 1).trans rfl, (blk_cell BK524.out 2).trans rfl, (blk_cell BK524.out 3).trans rfl, (blk_cell BK524.out 4).trans rfl, (blk_cell BK524.out 5).trans rfl, (blk_cell BK524.out 6).trans rfl⟩ (fun hHeld => ?_)
    clear hK K
    refine norm_ (a' := ?_) ?_ ?_
    rotate_left
    ·show Act.put _ (some 20) _ = _
     simp only [Act.put, List.setIfInBounds_toArray, List.set_cons_zero, List.set_cons_succ, i64_w, i32_w]
     rfl
    refine pure_ (i := 4) (N := some 21) (v := ?_) (a' := ?_) #[true, true, true, true, true, false, false, false, false, false, false, false, false, false, false, false] rfl rfl (any_of HT_.out (by kernel_rfl)) (fun _ _ _ h => h) (Or.inl ⟨by rfl, ?_⟩) ?_ ?_
    rotate_left
    ·intro w'
     go_simp
     with_reducible rfl
    rotate_left
    ·simp only [Act.put, List.setIfInBounds_toArray, List.set_cons_zero, List.set_cons_succ, i64_w, i32_w]
     rfl
    refine pure_ (i := 5) (N := some 22) (v := ?_) (a' := ?_) #[true, true, true, true, true, true, false, false, false, false, false, false, false, false, false, false] rfl rfl (any_of HT_.out (by kernel_rfl)) (fun _ _ _ h => h) (Or.inl ⟨by rfl, ?_⟩) ?_ ?_
    rotate_left
    ·intro w'
     go_simp
     with_reducible rfl
    rotate_left
    ·simp only [Act.put, List.setIfInBounds_toArray, List.set_cons_zero, List.set_cons_succ, i64_w, i32_w]
     rfl
    refine pure_ (i := 6) (N := some 23) (v := undef) (a' := ?_) #[true, true, true, true, true, true, true, false, false, false, false, false, false, false, false, false] rfl rfl (any_of HT_.out (by kernel_rfl)) (fun _ _ _ h => h) (Or.inr ⟨by rfl, rfl⟩) ?_ ?_
    rotate_left
    ·simp only [Act.put, List.setIfInBounds_toArray, List.set_cons_zero, List.set_cons_succ, i64_w, i32_w]
     rfl
    refine pure_ (i := 7) (N := some 24) (v := undef) (a' := ?_) #[true, true, true, true, true, true, true, true, false, false, false, false, false, false, false, false] rfl rfl (any_of HT_.out (by kernel_rfl)) (fun _ _ _ h => h) (Or.inr ⟨by rfl, rfl⟩) ?_ ?_
    rotate_left
    ·simp only [Act.put, List.setIfInBounds_toArray, List.set_cons_zero, List.set_cons_succ, i64_w, i32_w]
     rfl
    refine pure_ (i := 8) (N := some 25) (v := undef) (a' := ?_) #[true, true, true, true, true, true, true, true, true, false, false, false, false, false, false, false] rfl rfl (any_of HT_.out (by kernel_rfl)) (fun _ _ _ h => h) (Or.inr ⟨by rfl, rfl⟩) ?_ ?_
    rotate_left
    ·simp only [Act.put, List.setIfInBounds_toArray, List.set_cons_zero, List.set_cons_succ, i64_w, i32_w]
     rfl
    refine pure_ (i := 9) (N := some 26) (v := undef) (a' := ?_) #[true, true, true, true, true, true, true, true, true, true, false, false, false, false, false, false] rfl rfl (any_of HT_.out (by kernel_rfl)) (fun _ _ _ h => h) (Or.inr ⟨by rfl, rfl⟩) ?_ ?_
    rotate_left
    ·simp only [Act.put, List.setIfInBounds_toArray, List.set_cons_zero, List.set_cons_succ, i64_w, i32_w]
     rfl
    refine pure_ (i := 10) (N := some 27) (v := undef) (a' := ?_) #[true, true, true, true, true, true, true, true, true, true, true, false, false, false, false, false] rfl rfl (any_of HT_.out (by kernel_rfl)) (fun _ _ _ h => h) (Or.inr ⟨by rfl, rfl⟩) ?_ ?_
    rotate_left
    ·simp only [Act.put, List.setIfInBounds_toArray, List.set_cons_zero, List.set_cons_succ, i64_w, i32_w]
     rfl
    refine pure_ (i := 11) (N := some 28) (v := ?_) (a' := ?_) #[true, true, true, true, true, true, true, true, true, true, true, true, false, false, false, false] rfl rfl (any_of HT_.out (by kernel_rfl)) (fun _ _ _ h => h) (Or.inl ⟨by rfl, ?_⟩) ?_ ?_
    rotate_left
    ·intro w'
     go_simp
     with_reducible rfl
    rotate_left
    ·simp only [Act.put, List.setIfInBounds_toArray, List.set_cons_zero, List.set_cons_succ, i64_w, i32_w]
     rfl
    refine pure_ (i := 12) (N := some 29) (v := ?_) (a' := ?_) #[true, true, true, true, true, true, true, true, true, true, true, true, true, false, false, false] rfl rfl (any_of HT_.out (by kernel_rfl)) (fun _ _ _ h => h) (Or.inl ⟨by rfl, ?_⟩) ?_ ?_
    rotate_left
    ·intro w'
     go_simp
     with_reducible rfl
    rotate_left
    ·simp only [Act.put, List.setIfInBounds_toArray, List.set_cons_zero, List.set_cons_succ, i64_w, i32_w]
     rfl
    refine pure_ (i := 13) (N := some 30) (v := undef) (a' := ?_) #[true, true, true, true, true, true, true, true, true, true, true, true, true, true, false, false] rfl rfl (any_of HT_.out (by kernel_rfl)) (fun _ _ _ h => h) (Or.inr ⟨by rfl, rfl⟩) ?_ ?_
    rotate_left
    ·simp only [Act.put, List.setIfInBounds_toArray, List.set_cons_zero, List.set_cons_succ, i64_w, i32_w]
     rfl
    refine pure_ (i := 14) (N := some 31) (v := undef) (a' := ?_) #[true, true, true, true, true, true, true, true, true, true, true, true, true, true, true, false] rfl rfl (any_of HT_.out (by kernel_rfl)) (fun _ _ _ h => h) (Or.inr ⟨by rfl, rfl⟩) ?_ ?_
    rotate_left
    ·simp only [Act.put, List.setIfInBounds_toArray, List.set_cons_zero, List.set_cons_succ, i64_w, i32_w]
     rfl
    refine pure_ (i := 15) (N := some 32) (v := ?_) (a' := ?_) #[true, true, true, true, true, true, true, true, true, true, true, true, true, true, true, true] rfl rfl (any_of HT_.out (by kernel_rfl)) (fun _ _ _ h => h) (Or.inl ⟨by rfl, ?_⟩) ?_ ?_
    rotate_left
    ·intro w'
     go_simp
     with_reducible rfl
    rotate_left
    ·simp only [Act.put, List.setIfInBounds_toArray, List.set_cons_zero, List.set_cons_succ, i64_w, i32_w]
     rfl
    refine done_ (done_of HT_.out (by kernel_rfl)) ?_
    try go_wp2
    go_meet
    case rel => exact ⟨_, (true), q101_, H', ⟨q121_⟩, ⟨q99_⟩, ⟨q68_⟩⟩
  case rest =>
   clear HC6
   try clear c1
   try clear c2
   try clear p2
   try clear c3
   try clear p6
   try clear c7
   try clear c12
   try clear c12b0
   try clear c12b1
   try clear c15
   try clear c15b0
   try clear c15b1
   try clear c15b2
   try clear c21
   try clear c22
   try clear c23
   try clear c24
   try clear c25
   try clear hcz9_0 hcz9_1 hcz9_2 hcz9_3 hcz9_4 hcz9_5 hcz9_6
   try clear hfz9_0 hfz9_1 hfz9_2 hfz9_3 hfz9_4 hfz9_5 hfz9_6
   obtain ⟨kq, x32_5, rfl, HA, HJ5, BK524, HB⟩ := hcut
   cases kq with
   | zero => exact absurd HA.out (by simp [laws_FnCartReads.j0])
   | succ kj5 =>
    have H := HA.out
    clear HA
    simp only [laws_FnCartReads.j0] at H
    by_cases c26 : x32_5 = true
    ·subst c26
     replace H : ((spec_CartRead.f kj5 t516 t517 t518 t519 t520 t521 t522 t523).bind fun t529 => (if t525 = t529 then ((impl_CartOk.f kj5 t516 t517 t518 t519 t520 t521 t522).bind fun t530 => ((spec_CartOk.f kj5 t516 t517 t518 t519 t520 t521 t522).bind fun t531 => (some (t530 == t531)))) else (some false))) = some r := by rw [if_pos rfl] at H; exact H
     replace H := Option.bind_eq_some_iff.mp H
     obtain ⟨t529, A270, H⟩ := H
     have A27 := Aside0.mk A270
     clear A270
     by_cases c28 : t525 = t529
     ·rw [if_pos c28] at H
      have c28b0 : (t525 == t529) = true := beq_iff_eq.mpr c28
      have c28b1 : (t525 != t529) = false := bne_eq_false_iff_eq.mpr c28
      clear c28
      replace H := Option.bind_eq_some_iff.mp H
      obtain ⟨t530, A290, H⟩ := H
      have A29 := Aside0.mk A290
      clear A290
      replace H := Option.bind_eq_some_iff.mp H
      obtain ⟨t531, A300, H⟩ := H
      have A30 := Aside0.mk A300
      clear A300
      obtain rfl := Option.some.inj H
      try go_wp2
      have n0_ := Aside0.mk (blk_drew BK524.out)
      have n1_ := Aside0.mk (below_drew1 HB.out)
      clear BK524
      clear HB
      have BK524 := n0_
      have HB := n1_
      clear n0_ n1_
      refine start_ (n := 13) (S := fun w' => w'.cell? ⟨gb524, 0, none⟩ = some (.string t516) ∧ w'.cell? ⟨gb524, 1, none⟩ = some (.int .i64 t517) ∧ w'.cell? ⟨gb524, 2, none⟩ = some (.int .i64 t518) ∧ w'.cell? ⟨gb524, 3, none⟩ = some (.string t519) ∧ w'.cell? ⟨gb524, 4, none⟩ = some (.int .i64 t520) ∧ w'.cell? ⟨gb524, 5, none⟩ = some (.bool t521) ∧ w'.cell? ⟨gb524, 6, none⟩ = some (.int .i64 t522)) (ds := []) #[false, false, false, false, false, false, false, false, false, false, false, false, false] (by kernel_rfl) rfl rfl ⟨(blk_cell BK524.out 0).trans rfl, (blk_cell BK524.out 1).trans rfl, (blk_cell BK524.out 2).trans rfl, (blk_cell BK524.out 3).trans rfl, (blk_cell BK524.out 4).trans rfl, (blk_cell BK524.out 5).trans rfl, (blk_cell BK524.out 6).trans rfl⟩ (fun hHeld => ?_); refine with_tabW laws_FnCartReads.tab6 laws_FnCartReads.bits6 (fun HT_ HW_ => ?_)
      generalize wc.drew = w31 at BK524 HB hHeld ⊢
      refine pure_ (i := 0) (N := some 33) (v := ?_) (a' := ?_) #[true, false, false, false, false, false, false, false, false, false, false, false, false] rfl rfl (any_of HT_.out (by kernel_rfl)) (fun _ _ _ h => h) (Or.inl ⟨by rfl, ?_⟩) ?_ ?_
      rotate_left
      ·intro w'
       go_simp
       with_reducible rfl
      rotate_left
      ·simp only [Act.put, List.setIfInBounds_toArray, List.set_cons_zero, List.set_cons_succ, i64_w, i32_w]
       rfl
      refine pure_ (i := 2) (N := some 35) (v := ?_) (a' := ?_) #[true, false, true, false, false, false, false, false, false, false, false, false, false] rfl rfl (any_of HT_.out (by kernel_rfl)) (fun _ _ _ h => h) (Or.inl ⟨by rfl, ?_⟩) ?_ ?_
      rotate_left
      ·intro w'
       go_simp
       with_reducible rfl
      rotate_left
      ·simp only [Act.put, List.setIfInBounds_toArray, List.set_cons_zero, List.set_cons_succ, i64_w, i32_w]
       rfl
      refine take_ (i := 1) (N := some 34) (v := ?_) (a' := ?_) #[true, true, true, false, false, false, false, false, false, false, false, false, false] rfl rfl (take_ofW HT_.out HW_.out (by kernel_rfl)) (fun _ _ _ h => h) (Or.inl ⟨by rfl, ?_⟩) hHeld ?_ ?_
      rotate_left
      ·rintro w' ⟨s0, s1, s2, s3, s4, s5, s6⟩
       go_simp
       with_reducible rfl
      rotate_left
      ·simp only [Act.put, List.setIfInBounds_toArray, List.set_cons_zero, List.set_cons_succ, i64_w, i32_w]
       rfl
      refine one_ (i := 3) (N := some 36) #[true, true, true, true, false, false, false, false, false, false, false, false, false] rfl rfl (one_of HT_.out (by kernel_rfl)) (by decide) (fun K hK => ?_)
      refine goes_ Try.func23 (by kernel_rfl) rfl #[.agg #[.string t516, .int .i64 t517, .int .i64 t518, .string t519, .int .i64 t520, .bool t521, .int .i64 t522], .int .i64 t523] (by rfl) rfl rfl q74_ ?_
      with_reducible refine (spec_CartRead.calls kj5 t516 t517 t518 t519 t520 t521 t522 t523 t529 _ A27.out).mono ?_
      rintro e w32 ⟨rfl, hb⟩
      refine ⟨_, rfl, ?_⟩
      have n0_ := Aside0.mk (blk_below (g := gb524) (o := .cells #[.string t516, .int .i64 t517, .int .i64 t518, .string t519, .int .i64 t520, .bool t521, .int .i64 t522] 32 (0, 0)) q99_ hb)
      have n1_ := Aside0.mk (below_step q68_ hb)
      clear BK524
      clear HB
      have BK524 := n0_
      have HB := n1_
      clear n0_ n1_
      (try clear hb)
      (try clear hb2)
      (try clear hk)
      (try clear hi)
      refine hK.out _ _ ⟨(blk_cell BK524.out 0).trans rfl, (blk_cell BK524.out 1).trans rfl, (blk_cell BK524.out 2).trans rfl, (blk_cell BK524.out 3).trans rfl, (blk_cell BK524.out 4).trans rfl, (blk_cell BK524.out 5).trans rfl, (blk_cell BK524.out 6).trans rfl⟩ (fun hHeld => ?_)
      clear hK K
      refine norm_ (a' := ?_) ?_ ?_
      rotate_left
      ·show Act.put _ (some 36) _ = _
       simp only [Act.put, List.setIfInBounds_toArray, List.set_cons_zero, List.set_cons_succ, i64_w, i32_w]
       rfl
      refine pure_ (i := 4) (N := some 37) (v := ?_) (a' := ?_) #[true, true, true, true, true, false, false, false, false, false, false, false, false] rfl rfl (any_of HT_.out (by kernel_rfl)) (fun _ _ _ h => h) (Or.inl ⟨by rfl, ?_⟩) ?_ ?_
      rotate_left
      ·intro w'
       go_simp
       with_reducible rfl
      rotate_left
      ·simp only [Act.put, List.setIfInBounds_toArray, List.set_cons_zero, List.set_cons_succ, i64_w, i32_w]
       rfl
      refine pure_ (i := 5) (N := some 38) (v := ?_) (a' := ?_) #[true, true, true, true, true, true, false, false, false, false, false, false, false] rfl rfl (any_of HT_.out (by kernel_rfl)) (fun _ _ _ h => h) (Or.inl ⟨by rfl, ?_⟩) ?_ ?_
      rotate_left
      ·intro w'
       go_simp
       with_reducible rfl
      rotate_left
      ·simp only [Act.put, List.setIfInBounds_toArray, List.set_cons_zero, List.set_cons_succ, i64_w, i32_w]
       rfl
      refine take_ (i := 6) (N := some 39) (v := ?_) (a' := ?_) #[true, true, true, true, true, true, true, false, false, false, false, false, false] rfl rfl (take_ofW HT_.out HW_.out (by kernel_rfl)) (fun _ _ _ h => h) (Or.inl ⟨by rfl, ?_⟩) hHeld ?_ ?_
      rotate_left
      ·rintro w' ⟨s0, s1, s2, s3, s4, s5, s6⟩
       go_simp
       with_reducible rfl
      rotate_left
      ·simp only [Act.put, List.setIfInBounds_toArray, List.set_cons_zero, List.set_cons_succ, i64_w, i32_w]
       rfl
      refine take_ (i := 8) (N := some 41) (v := ?_) (a' := ?_) #[true, true, true, true, true, true, true, false, true, false, false, false, false] rfl rfl (take_ofW HT_.out HW_.out (by kernel_rfl)) (fun _ _ _ h => h) (Or.inl ⟨by rfl, ?_⟩) hHeld ?_ ?_
      rotate_left
      ·rintro w' ⟨s0, s1, s2, s3, s4, s5, s6⟩
       go_simp
       with_reducible rfl
      rotate_left
      ·simp only [Act.put, List.setIfInBounds_toArray, List.set_cons_zero, List.set_cons_succ, i64_w, i32_w]
       rfl
      refine one_ (i := 7) (N := some 40) #[true, true, true, true, true, true, true, true, true, false, false, false, false] rfl rfl (one_of HT_.out (by kernel_rfl)) (by decide) (fun K hK => ?_)
      refine goes_ Try.func24 (by kernel_rfl) rfl #[.agg #[.string t516, .int .i64 t517, .int .i64 t518, .string t519, .int .i64 t520, .bool t521, .int .i64 t522]] (by rfl) rfl rfl q74_ ?_
      with_reducible refine (impl_CartOk.calls kj5 t516 t517 t518 t519 t520 t521 t522 t530 _ A29.out).mono ?_
      rintro e w33 ⟨rfl, hb⟩
      refine ⟨_, rfl, ?_⟩
      have n0_ := Aside0.mk (blk_below (g := gb524) (o := .cells #[.string t516, .int .i64 t517, .int .i64 t518, .string t519, .int .i64 t520, .bool t521, .int .i64 t522] 32 (0, 0)) q99_ hb)
      have n1_ := Aside0.mk (below_step q68_ hb)
      clear BK524
      clear HB
      have BK524 := n0_
      have HB := n1_
      clear n0_ n1_
      (try clear hb)
      (try clear hb2)
      (try clear hk)
      (try clear hi)
      refine hK.out _ _ ⟨(blk_cell BK524.out 0).trans rfl, (blk_cell BK524.out 1).trans rfl, (blk_cell BK524.out 2).trans rfl, (blk_cell BK524.out 3).trans rfl, (blk_cell BK524.out 4).trans rfl, (blk_cell BK524.out 5).trans rfl, (blk_cell BK524.out 6).trans rfl⟩ (fun hHeld => ?_)
      clear hK K
      refine norm_ (a' := ?_) ?_ ?_
      rotate_left
      ·show Act.put _ (some 40) _ = _
       simp only [Act.put, List.setIfInBounds_toArray, List.set_cons_zero, List.set_cons_succ, i64_w, i32_w]
       rfl
      refine one_ (i := 9) (N := some 42) #[true, true, true, true, true, true, true, true, true, true, false, false, false] rfl rfl (one_of HT_.out (by kernel_rfl)) (by decide) (fun K hK => ?_)
      refine goes_ Try.func25 (by kernel_rfl) rfl #[.agg #[.string t516, .int .i64 t517, .int .i64 t518, .string t519, .int .i64 t520, .bool t521, .int .i64 t522]] (by rfl) rfl rfl q74_ ?_
      with_reducible refine (spec_CartOk.calls kj5 t516 t517 t518 t519 t520 t521 t522 t531 _ A30.out).mono ?_
      rintro e w34 ⟨rfl, hb⟩
      refine ⟨_, rfl, ?_⟩
      have n0_ := Aside0.mk (blk_below (g := gb524) (o := .cells #[.string t516, .int .i64 t517, .int .i64 t518, .string t519, .int .i64 t520, .bool t521, .int .i64 t522] 32 (0, 0)) q99_ hb)
      have n1_ := Aside0.mk (below_step q68_ hb)
      clear BK524
      clear HB
      have BK524 := n0_
      have HB := n1_
      clear n0_ n1_
      (try clear hb)
      (try clear hb2)
      (try clear hk)
      (try clear hi)
      refine hK.out _ _ ⟨(blk_cell BK524.out 0).trans rfl, (blk_cell BK524.out 1).trans rfl, (blk_cell BK524.out 2).trans rfl, (blk_cell BK524.out 3).trans rfl, (blk_cell BK524.out 4).trans rfl, (blk_cell BK524.out 5).trans rfl, (blk_cell BK524.out 6).trans rfl⟩ (fun hHeld => ?_)
      clear hK K
      refine norm_ (a' := ?_) ?_ ?_
      rotate_left
      ·show Act.put _ (some 42) _ = _
       simp only [Act.put, List.setIfInBounds_toArray, List.set_cons_zero, List.set_cons_succ, i64_w, i32_w]
       rfl
      refine pure_ (i := 10) (N := some 43) (v := ?_) (a' := ?_) #[true, true, true, true, true, true, true, true, true, true, true, false, false] rfl rfl (any_of HT_.out (by kernel_rfl)) (fun _ _ _ h => h) (Or.inl ⟨by rfl, ?_⟩) ?_ ?_
      rotate_left
      ·intro w'
       go_simp
       with_reducible rfl
      rotate_left
      ·simp only [Act.put, List.setIfInBounds_toArray, List.set_cons_zero, List.set_cons_succ, i64_w, i32_w]
       rfl
      refine pure_ (i := 11) (N := some 44) (v := ?_) (a' := ?_) #[true, true, true, true, true, true, true, true, true, true, true, true, false] rfl rfl (any_of HT_.out (by kernel_rfl)) (fun _ _ _ h => h) (Or.inl ⟨by rfl, ?_⟩) ?_ ?_
      rotate_left
      ·intro w'
       go_simp
       with_reducible rfl
      rotate_left
      ·simp only [Act.put, List.setIfInBounds_toArray, List.set_cons_zero, List.set_cons_succ, i64_w, i32_w]
       rfl
      refine pure_ (i := 12) (N := some 2) (v := ?_) (a' := ?_) #[true, true, true, true, true, true, true, true, true, true, true, true, true] rfl rfl (any_of HT_.out (by kernel_rfl)) (fun _ _ _ h => h) (Or.inl ⟨by rfl, ?_⟩) ?_ ?_
      rotate_left
      ·intro w'
       go_simp
       with_reducible rfl
      rotate_left
      ·simp only [Act.put, List.setIfInBounds_toArray, List.set_cons_zero, List.set_cons_succ, i64_w, i32_w]
       rfl
      refine done_ (done_of HT_.out (by kernel_rfl)) ?_
      try go_wp2
      go_ret
      exact ⟨q76_, q68_⟩
     ·rw [if_neg c28] at H
      have c28b0 : (t525 == t529) = false := beq_eq_false_iff_ne.mpr c28
      have c28b1 : (t525 != t529) = true := bne_iff_ne.mpr c28
      obtain rfl := Option.some.inj H
      try go_wp2
      have n0_ := Aside0.mk (blk_drew BK524.out)
      have n1_ := Aside0.mk (below_drew1 HB.out)
      clear BK524
      clear HB
      have BK524 := n0_
      have HB := n1_
      clear n0_ n1_
      refine start_ (n := 13) (S := fun w' => w'.cell? ⟨gb524, 0, none⟩ = some (.string t516) ∧ w'.cell? ⟨gb524, 1, none⟩ = some (.int .i64 t517) ∧ w'.cell? ⟨gb524, 2, none⟩ = some (.int .i64 t518) ∧ w'.cell? ⟨gb524, 3, none⟩ = some (.string t519) ∧ w'.cell? ⟨gb524, 4, none⟩ = some (.int .i64 t520) ∧ w'.cell? ⟨gb524, 5, none⟩ = some (.bool t521) ∧ w'.cell? ⟨gb524, 6, none⟩ = some (.int .i64 t522)) (ds := []) #[false, false, false, false, false, false, false, false, false, false, false, false, false] (by kernel_rfl) rfl rfl ⟨(blk_cell BK524.out 0).trans rfl, (blk_cell BK524.out 1).trans rfl, (blk_cell BK524.out 2).trans rfl, (blk_cell BK524.out 3).trans rfl, (blk_cell BK524.out 4).trans rfl, (blk_cell BK524.out 5).trans rfl, (blk_cell BK524.out 6).trans rfl⟩ (fun hHeld => ?_); refine with_tabW laws_FnCartReads.tab6 laws_FnCartReads.bits6 (fun HT_ HW_ => ?_)
      generalize wc.drew = w35 at BK524 HB hHeld ⊢
      refine pure_ (i := 0) (N := some 33) (v := ?_) (a' := ?_) #[true, false, false, false, false, false, false, false, false, false, false, false, false] rfl rfl (any_of HT_.out (by kernel_rfl)) (fun _ _ _ h => h) (Or.inl ⟨by rfl, ?_⟩) ?_ ?_
      rotate_left
      ·intro w'
       go_simp
       with_reducible rfl
      rotate_left
      ·simp only [Act.put, List.setIfInBounds_toArray, List.set_cons_zero, List.set_cons_succ, i64_w, i32_w]
       rfl
      refine pure_ (i := 2) (N := some 35) (v := ?_) (a' := ?_) #[true, false, true, false, false, false, false, false, false, false, false, false, false] rfl rfl (any_of HT_.out (by kernel_rfl)) (fun _ _ _ h => h) (Or.inl ⟨by rfl, ?_⟩) ?_ ?_
      rotate_left
      ·intro w'
       go_simp
       with_reducible rfl
      rotate_left
      ·simp only [Act.put, List.setIfInBounds_toArray, List.set_cons_zero, List.set_cons_succ, i64_w, i32_w]
       rfl
      refine take_ (i := 1) (N := some 34) (v := ?_) (a' := ?_) #[true, true, true, false, false, false, false, false, false, false, false, false, false] rfl rfl (take_ofW HT_.out HW_.out (by kernel_rfl)) (fun _ _ _ h => h) (Or.inl ⟨by rfl, ?_⟩) hHeld ?_ ?_
      rotate_left
      ·rintro w' ⟨s0, s1, s2, s3, s4, s5, s6⟩
       go_simp
       with_reducible rfl
      rotate_left
      ·simp only [Act.put, List.setIfInBounds_toArray, List.set_cons_zero, List.set_cons_succ, i64_w, i32_w]
       rfl
      refine one_ (i := 3) (N := some 36) #[true, true, true, true, false, false, false, false, false, false, false, false, false] rfl rfl (one_of HT_.out (by kernel_rfl)) (by decide) (fun K hK => ?_)
      refine goes_ Try.func23 (by kernel_rfl) rfl #[.agg #[.string t516, .int .i64 t517, .int .i64 t518, .string t519, .int .i64 t520, .bool t521, .int .i64 t522], .int .i64 t523] (by rfl) rfl rfl q74_ ?_
      with_reducible refine (spec_CartRead.calls kj5 t516 t517 t518 t519 t520 t521 t522 t523 t529 _ A27.out).mono ?_
      rintro e w36 ⟨rfl, hb⟩
      refine ⟨_, rfl, ?_⟩
      have n0_ := Aside0.mk (blk_below (g := gb524) (o := .cells #[.string t516, .int .i64 t517, .int .i64 t518, .string t519, .int .i64 t520, .bool t521, .int .i64 t522] 32 (0, 0)) q99_ hb)
      have n1_ := Aside0.mk (below_step q68_ hb)
      clear BK524
      clear HB
      have BK524 := n0_
      have HB := n1_
      clear n0_ n1_
      (try clear hb)
      (try clear hb2)
      (try clear hk)
      (try clear hi)
      refine hK.out _ _ ⟨(blk_cell BK524.out 0).trans rfl, (blk_cell BK524.out 1).trans rfl, (blk_cell BK524.out 2).trans rfl, (blk_cell BK524.out 3).trans rfl, (blk_cell BK524.out 4).trans rfl, (blk_cell BK524.out 5).trans rfl, (blk_cell BK524.out 6).trans rfl⟩ (fun hHeld => ?_)
      clear hK K
      refine norm_ (a' := ?_) ?_ ?_
      rotate_left
      ·show Act.put _ (some 36) _ = _
       simp only [Act.put, List.setIfInBounds_toArray, List.set_cons_zero, List.set_cons_succ, i64_w, i32_w]
       rfl
      refine pure_ (i := 4) (N := some 37) (v := ?_) (a' := ?_) #[true, true, true, true, true, false, false, false, false, false, false, false, false] rfl rfl (any_of HT_.out (by kernel_rfl)) (fun _ _ _ h => h) (Or.inl ⟨by rfl, ?_⟩) ?_ ?_
      rotate_left
      ·intro w'
       go_simp
       with_reducible rfl
      rotate_left
      ·simp only [Act.put, List.setIfInBounds_toArray, List.set_cons_zero, List.set_cons_succ, i64_w, i32_w]
       rfl
      refine pure_ (i := 5) (N := some 38) (v := ?_) (a' := ?_) #[true, true, true, true, true, true, false, false, false, false, false, false, false] rfl rfl (any_of HT_.out (by kernel_rfl)) (fun _ _ _ h => h) (Or.inl ⟨by rfl, ?_⟩) ?_ ?_
      rotate_left
      ·intro w'
       go_simp
       with_reducible rfl
      rotate_left
      ·simp only [Act.put, List.setIfInBounds_toArray, List.set_cons_zero, List.set_cons_succ, i64_w, i32_w]
       rfl
      refine pure_ (i := 6) (N := some 39) (v := undef) (a' := ?_) #[true, true, true, true, true, true, true, false, false, false, false, false, false] rfl rfl (any_of HT_.out (by kernel_rfl)) (fun _ _ _ h => h) (Or.inr ⟨by rfl, rfl⟩) ?_ ?_
      rotate_left
      ·simp only [Act.put, List.setIfInBounds_toArray, List.set_cons_zero, List.set_cons_succ, i64_w, i32_w]
       rfl
      refine pure_ (i := 7) (N := some 40) (v := undef) (a' := ?_) #[true, true, true, true, true, true, true, true, false, false, false, false, false] rfl rfl (any_of HT_.out (by kernel_rfl)) (fun _ _ _ h => h) (Or.inr ⟨by rfl, rfl⟩) ?_ ?_
      rotate_left
      ·simp only [Act.put, List.setIfInBounds_toArray, List.set_cons_zero, List.set_cons_succ, i64_w, i32_w]
       rfl
      refine pure_ (i := 8) (N := some 41) (v := undef) (a' := ?_) #[true, true, true, true, true, true, true, true, true, false, false, false, false] rfl rfl (any_of HT_.out (by kernel_rfl)) (fun _ _ _ h => h) (Or.inr ⟨by rfl, rfl⟩) ?_ ?_
      rotate_left
      ·simp only [Act.put, List.setIfInBounds_toArray, List.set_cons_zero, List.set_cons_succ, i64_w, i32_w]
       rfl
      refine pure_ (i := 9) (N := some 42) (v := undef) (a' := ?_) #[true, true, true, true, true, true, true, true, true, true, false, false, false] rfl rfl (any_of HT_.out (by kernel_rfl)) (fun _ _ _ h => h) (Or.inr ⟨by rfl, rfl⟩) ?_ ?_
      rotate_left
      ·simp only [Act.put, List.setIfInBounds_toArray, List.set_cons_zero, List.set_cons_succ, i64_w, i32_w]
       rfl
      refine pure_ (i := 10) (N := some 43) (v := undef) (a' := ?_) #[true, true, true, true, true, true, true, true, true, true, true, false, false] rfl rfl (any_of HT_.out (by kernel_rfl)) (fun _ _ _ h => h) (Or.inr ⟨by rfl, rfl⟩) ?_ ?_
      rotate_left
      ·simp only [Act.put, List.setIfInBounds_toArray, List.set_cons_zero, List.set_cons_succ, i64_w, i32_w]
       rfl
      refine pure_ (i := 11) (N := some 44) (v := ?_) (a' := ?_) #[true, true, true, true, true, true, true, true, true, true, true, true, false] rfl rfl (any_of HT_.out (by kernel_rfl)) (fun _ _ _ h => h) (Or.inl ⟨by rfl, ?_⟩) ?_ ?_
      rotate_left
      ·intro w'
       go_simp
       with_reducible rfl
      rotate_left
      ·simp only [Act.put, List.setIfInBounds_toArray, List.set_cons_zero, List.set_cons_succ, i64_w, i32_w]
       rfl
      refine pure_ (i := 12) (N := some 2) (v := ?_) (a' := ?_) #[true, true, true, true, true, true, true, true, true, true, true, true, true] rfl rfl (any_of HT_.out (by kernel_rfl)) (fun _ _ _ h => h) (Or.inl ⟨by rfl, ?_⟩) ?_ ?_
      rotate_left
      ·intro w'
       go_simp
       with_reducible rfl
      rotate_left
      ·simp only [Act.put, List.setIfInBounds_toArray, List.set_cons_zero, List.set_cons_succ, i64_w, i32_w]
       rfl
      refine done_ (done_of HT_.out (by kernel_rfl)) ?_
      try go_wp2
      go_ret
      exact ⟨q76_, q68_⟩
    ·replace c26 := Bool.eq_false_iff.mpr c26
     subst c26
     replace H : (if t523 < 256 then (if 0 ≤ t523 then (if t523 < (t516.size : Int) then (some (t525 == (wrap64 (bt t516 t523)))) else (none)) else (none)) else (if t523 < 512 then ((impl_MappedBank.f kj5 t516 t517 t518 t519 t520 t521 t522).bind fun t532 => (if t532 ≥ 0 then ((spec_MappedBank.f kj5 t516 t517 t518 t519 t520 t521 t522).bind fun t533 => (if t532 = t533 then (if 0 ≤ (wrap64 ((wrap64 ((wrap64 (t532 * 256)) + t523)) - 256)) then (if (wrap64 ((wrap64 ((wrap64 (t532 * 256)) + t523)) - 256)) < (t516.size : Int) then (some (t525 == (wrap64 (bt t516 (wrap64 ((wrap64 ((wrap64 (t532 * 256)) + t523)) - 256)))))) else (none)) else (none)) else (some false))) else (some false))) else (if t523 < 40960 then (some (t525 == 255)) else (if t523 ≥ 41024 then (some (t525 == 255)) else (if t521 = true then (some (decide (t525 ≤ 255))) else (some (t525 == 255))))))) = some r := by rw [if_neg (show ¬ (false = true) by decide)] at H; exact H
     by_cases c37 : t523 < 256
     ·rw [if_pos c37] at H
      have c37b0 : decide (t523 < 256) = true := decide_eq_true c37
      clear c37
      by_cases c38 : 0 ≤ t523
      ·rw [if_pos c38] at H
       have c38b0 : decide (0 ≤ t523) = true := decide_eq_true c38
       clear c38
       by_cases c39 : t523 < (t516.size : Int)
       ·rw [if_pos c39] at H
        have c39b0 : decide (t523 < (t516.size : Int)) = true := decide_eq_true c39
        clear c39
        obtain rfl := Option.some.inj H
        have hcz41_0 : wc.cell? ⟨gb524, 0, none⟩ = some (.string t516) := bz_ BK524 0
        have hcz41_1 : wc.cell? ⟨gb524, 1, none⟩ = some (.int .i64 t517) := bz_ BK524 1
        have hcz41_2 : wc.cell? ⟨gb524, 2, none⟩ = some (.int .i64 t518) := bz_ BK524 2
        have hcz41_3 : wc.cell? ⟨gb524, 3, none⟩ = some (.string t519) := bz_ BK524 3
        have hcz41_4 : wc.cell? ⟨gb524, 4, none⟩ = some (.int .i64 t520) := bz_ BK524 4
        have hcz41_5 : wc.cell? ⟨gb524, 5, none⟩ = some (.bool t521) := bz_ BK524 5
        have hcz41_6 : wc.cell? ⟨gb524, 6, none⟩ = some (.int .i64 t522) := bz_ BK524 6
        have hfz41_0 := blk_frozen BK524.out 0
        have hfz41_1 := blk_frozen BK524.out 1
        have hfz41_2 := blk_frozen BK524.out 2
        have hfz41_3 := blk_frozen BK524.out 3
        have hfz41_4 := blk_frozen BK524.out 4
        have hfz41_5 := blk_frozen BK524.out 5
        have hfz41_6 := blk_frozen BK524.out 6
        have p40 : 0 ≤ (t523 : Int) := of_decide_eq_true q109_
        have q40 : t523 < (t516.size : Int) := of_decide_eq_true q109_
        have hx40 := bt_at t516 t523
        replace p40 := eq_true p40
        replace q40 := eq_true q40
        go_wp2
        go_ret
        exact ⟨q76_, q68_⟩
       ·rw [if_neg c39] at H
        exact absurd H (by simp)
      ·rw [if_neg c38] at H
       exact absurd H (by simp)
     ·rw [if_neg c37] at H
      have c37b0 : decide (t523 < 256) = false := decide_eq_false c37
      clear c37
      by_cases c42 : t523 < 512
      ·rw [if_pos c42] at H
       have c42b0 : decide (t523 < 512) = true := decide_eq_true c42
       clear c42
       replace H := Option.bind_eq_some_iff.mp H
       obtain ⟨t532, A430, H⟩ := H
       have A43 := Aside0.mk A430
       clear A430
       by_cases c44 : t532 ≥ 0
       ·rw [if_pos c44] at H
        have c44b0 : decide (0 ≤ t532) = true := decide_eq_true c44
        clear c44
        replace H := Option.bind_eq_some_iff.mp H
        obtain ⟨t533, A450, H⟩ := H
        have A45 := Aside0.mk A450
        clear A450
        by_cases c46 : t532 = t533
        ·rw [if_pos c46] at H
         have c46b0 : (t532 == t533) = true := beq_iff_eq.mpr c46
         have c46b1 : (t532 != t533) = false := bne_eq_false_iff_eq.mpr c46
         clear c46
         obtain ⟨ji47, hji47⟩ : ∃ j_ : Int, (wrap64 ((wrap64 ((wrap64 (t532 * 256)) + t523)) - 256)) = j_ := ⟨_, rfl⟩
         replace H : (if 0 ≤ (ji47) then (if (ji47) < (t516.size : Int) then (some (t525 == (wrap64 (bt t516 (ji47))))) else (none)) else (none)) = some r := by first | (rw [hji47] at H; exact H) | (simp only [hji47] at H ⊢; exact H)
         (try rw [hji47] at A43)
         (try rw [hji47] at A45)
         have hji47w : (IntKind.i64.wrap ((wrap64 ((wrap64 (t532 * 256)) + t523)) - 256)) = ji47 := (i64_w _).trans hji47
         by_cases c48 : 0 ≤ (ji47)
         ·rw [if_pos c48] at H
          have c48b0 : decide (0 ≤ (ji47)) = true := decide_eq_true c48
          clear c48
          by_cases c49 : (ji47) < (t516.size : Int)
          ·rw [if_pos c49] at H
           have c49b0 : decide ((ji47) < (t516.size : Int)) = true := decide_eq_true c49
           clear c49
           obtain rfl := Option.some.inj H
           have hcz51_0 : wc.cell? ⟨gb524, 0, none⟩ = some (.string t516) := bz_ BK524 0
           have hcz51_1 : wc.cell? ⟨gb524, 1, none⟩ = some (.int .i64 t517) := bz_ BK524 1
           have hcz51_2 : wc.cell? ⟨gb524, 2, none⟩ = some (.int .i64 t518) := bz_ BK524 2
           have hcz51_3 : wc.cell? ⟨gb524, 3, none⟩ = some (.string t519) := bz_ BK524 3
           have hcz51_4 : wc.cell? ⟨gb524, 4, none⟩ = some (.int .i64 t520) := bz_ BK524 4
           have hcz51_5 : wc.cell? ⟨gb524, 5, none⟩ = some (.bool t521) := bz_ BK524 5
           have hcz51_6 : wc.cell? ⟨gb524, 6, none⟩ = some (.int .i64 t522) := bz_ BK524 6
           have hfz51_0 := blk_frozen BK524.out 0
           have hfz51_1 := blk_frozen BK524.out 1
           have hfz51_2 := blk_frozen BK524.out 2
           have hfz51_3 := blk_frozen BK524.out 3
           have hfz51_4 := blk_frozen BK524.out 4
           have hfz51_5 := blk_frozen BK524.out 5
           have hfz51_6 := blk_frozen BK524.out 6
           go_wp2_with (first | ((with_reducible refine gate_callee (f := 20) rfl ?_); refine goesL_ (some 59) rfl rfl Try.func20 (by kernel_rfl) rfl #[.agg #[.string t516, .int .i64 t517, .int .i64 t518, .string t519, .int .i64 t520, .bool t521, .int .i64 t522]] rfl q74_ ?_; (with_reducible refine (impl_MappedBank.calls kj5 t516 t517 t518 t519 t520 t521 t522 t532 _ A43.out).mono ?_); rintro e w52 ⟨rfl, hb⟩; refine ⟨_, rfl, ?_⟩; have n0_ := Aside0.mk (blk_below (g := gb524) (o := .cells #[.string t516, .int .i64 t517, .int .i64 t518, .string t519, .int .i64 t520, .bool t521, .int .i64 t522] 32 (0, 0)) q99_ hb); have n1_ := Aside0.mk (below_step q68_ hb); clear BK524; clear HB; have BK524 := n0_; have HB := n1_; clear n0_ n1_; (try clear hb); have hcz53_0 : w52.cell? ⟨gb524, 0, none⟩ = some (.string t516) := (blk_cell BK524.out 0).trans rfl; have hcz53_1 : w52.cell? ⟨gb524, 1, none⟩ = some (.int .i64 t517) := (blk_cell BK524.out 1).trans rfl; have hcz53_2 : w52.cell? ⟨gb524, 2, none⟩ = some (.int .i64 t518) := (blk_cell BK524.out 2).trans rfl; have hcz53_3 : w52.cell? ⟨gb524, 3, none⟩ = some (.string t519) := (blk_cell BK524.out 3).trans rfl; have hcz53_4 : w52.cell? ⟨gb524, 4, none⟩ = some (.int .i64 t520) := (blk_cell BK524.out 4).trans rfl; have hcz53_5 : w52.cell? ⟨gb524, 5, none⟩ = some (.bool t521) := (blk_cell BK524.out 5).trans rfl; have hcz53_6 : w52.cell? ⟨gb524, 6, none⟩ = some (.int .i64 t522) := (blk_cell BK524.out 6).trans rfl; have hfz53_0 := blk_frozen BK524.out 0; have hfz53_1 := blk_frozen BK524.out 1; have hfz53_2 := blk_frozen BK524.out 2; have hfz53_3 := blk_frozen BK524.out 3; have hfz53_4 := blk_frozen BK524.out 4; have hfz53_5 := blk_frozen BK524.out 5; have hfz53_6 := blk_frozen BK524.out 6) | (go_at_call 26; (with_reducible refine (spec_MappedBank.calls kj5 t516 t517 t518 t519 t520 t521 t522 t533 _ A45.out).mono ?_); rintro e w54 ⟨rfl, hb⟩; have n0_ := Aside0.mk (blk_below (g := gb524) (o := .cells #[.string t516, .int .i64 t517, .int .i64 t518, .string t519, .int .i64 t520, .bool t521, .int .i64 t522] 32 (0, 0)) q99_ hb); have n1_ := Aside0.mk (below_step q68_ hb); clear BK524; clear HB; have BK524 := n0_; have HB := n1_; clear n0_ n1_; (try clear hb); have hcz55_0 : w54.cell? ⟨gb524, 0, none⟩ = some (.string t516) := (blk_cell BK524.out 0).trans rfl; have hcz55_1 : w54.cell? ⟨gb524, 1, none⟩ = some (.int .i64 t517) := (blk_cell BK524.out 1).trans rfl; have hcz55_2 : w54.cell? ⟨gb524, 2, none⟩ = some (.int .i64 t518) := (blk_cell BK524.out 2).trans rfl; have hcz55_3 : w54.cell? ⟨gb524, 3, none⟩ = some (.string t519) := (blk_cell BK524.out 3).trans rfl; have hcz55_4 : w54.cell? ⟨gb524, 4, none⟩ = some (.int .i64 t520) := (blk_cell BK524.out 4).trans rfl; have hcz55_5 : w54.cell? ⟨gb524, 5, none⟩ = some (.bool t521) := (blk_cell BK524.out 5).trans rfl; have hcz55_6 : w54.cell? ⟨gb524, 6, none⟩ = some (.int .i64 t522) := (blk_cell BK524.out 6).trans rfl; have hfz55_0 := blk_frozen BK524.out 0; have hfz55_1 := blk_frozen BK524.out 1; have hfz55_2 := blk_frozen BK524.out 2; have hfz55_3 := blk_frozen BK524.out 3; have hfz55_4 := blk_frozen BK524.out 4; have hfz55_5 := blk_frozen BK524.out 5; have hfz55_6 := blk_frozen BK524.out 6; have p50 : 0 ≤ ((ji47) : Int) := of_decide_eq_true q109_; have q50 : (ji47) < (t516.size : Int) := of_decide_eq_true q109_; have hx50 := bt_at t516 (ji47); replace p50 := eq_true p50; replace q50 := eq_true q50))
           go_ret
           exact ⟨by first | rfl | (simp [errW_none, errW_some] <;> rfl) | (simp only [← hji47]; first | rfl | (simp [errW_none, errW_some] <;> rfl)) | (simp [*, errW_none, errW_some] <;> rfl) | (exfalso; simp_all; done), q68_⟩
          ·rw [if_neg c49] at H
           exact absurd H (by simp)
         ·rw [if_neg c48] at H
          exact absurd H (by simp)
        ·rw [if_neg c46] at H
         have c46b0 : (t532 == t533) = false := beq_eq_false_iff_ne.mpr c46
         have c46b1 : (t532 != t533) = true := bne_iff_ne.mpr c46
         obtain rfl := Option.some.inj H
         have hcz56_0 : wc.cell? ⟨gb524, 0, none⟩ = some (.string t516) := bz_ BK524 0
         have hcz56_1 : wc.cell? ⟨gb524, 1, none⟩ = some (.int .i64 t517) := bz_ BK524 1
         have hcz56_2 : wc.cell? ⟨gb524, 2, none⟩ = some (.int .i64 t518) := bz_ BK524 2
         have hcz56_3 : wc.cell? ⟨gb524, 3, none⟩ = some (.string t519) := bz_ BK524 3
         have hcz56_4 : wc.cell? ⟨gb524, 4, none⟩ = some (.int .i64 t520) := bz_ BK524 4
         have hcz56_5 : wc.cell? ⟨gb524, 5, none⟩ = some (.bool t521) := bz_ BK524 5
         have hcz56_6 : wc.cell? ⟨gb524, 6, none⟩ = some (.int .i64 t522) := bz_ BK524 6
         have hfz56_0 := blk_frozen BK524.out 0
         have hfz56_1 := blk_frozen BK524.out 1
         have hfz56_2 := blk_frozen BK524.out 2
         have hfz56_3 := blk_frozen BK524.out 3
         have hfz56_4 := blk_frozen BK524.out 4
         have hfz56_5 := blk_frozen BK524.out 5
         have hfz56_6 := blk_frozen BK524.out 6
         go_wp2_with (first | ((with_reducible refine gate_callee (f := 20) rfl ?_); refine goesL_ (some 59) rfl rfl Try.func20 (by kernel_rfl) rfl #[.agg #[.string t516, .int .i64 t517, .int .i64 t518, .string t519, .int .i64 t520, .bool t521, .int .i64 t522]] rfl q74_ ?_; (with_reducible refine (impl_MappedBank.calls kj5 t516 t517 t518 t519 t520 t521 t522 t532 _ A43.out).mono ?_); rintro e w57 ⟨rfl, hb⟩; refine ⟨_, rfl, ?_⟩; have n0_ := Aside0.mk (blk_below (g := gb524) (o := .cells #[.string t516, .int .i64 t517, .int .i64 t518, .string t519, .int .i64 t520, .bool t521, .int .i64 t522] 32 (0, 0)) q99_ hb); have n1_ := Aside0.mk (below_step q68_ hb); clear BK524; clear HB; have BK524 := n0_; have HB := n1_; clear n0_ n1_; (try clear hb); have hcz58_0 : w57.cell? ⟨gb524, 0, none⟩ = some (.string t516) := (blk_cell BK524.out 0).trans rfl; have hcz58_1 : w57.cell? ⟨gb524, 1, none⟩ = some (.int .i64 t517) := (blk_cell BK524.out 1).trans rfl; have hcz58_2 : w57.cell? ⟨gb524, 2, none⟩ = some (.int .i64 t518) := (blk_cell BK524.out 2).trans rfl; have hcz58_3 : w57.cell? ⟨gb524, 3, none⟩ = some (.string t519) := (blk_cell BK524.out 3).trans rfl; have hcz58_4 : w57.cell? ⟨gb524, 4, none⟩ = some (.int .i64 t520) := (blk_cell BK524.out 4).trans rfl; have hcz58_5 : w57.cell? ⟨gb524, 5, none⟩ = some (.bool t521) := (blk_cell BK524.out 5).trans rfl; have hcz58_6 : w57.cell? ⟨gb524, 6, none⟩ = some (.int .i64 t522) := (blk_cell BK524.out 6).trans rfl; have hfz58_0 := blk_frozen BK524.out 0; have hfz58_1 := blk_frozen BK524.out 1; have hfz58_2 := blk_frozen BK524.out 2; have hfz58_3 := blk_frozen BK524.out 3; have hfz58_4 := blk_frozen BK524.out 4; have hfz58_5 := blk_frozen BK524.out 5; have hfz58_6 := blk_frozen BK524.out 6) | (go_at_call 26; (with_reducible refine (spec_MappedBank.calls kj5 t516 t517 t518 t519 t520 t521 t522 t533 _ A45.out).mono ?_); rintro e w59 ⟨rfl, hb⟩; have n0_ := Aside0.mk (blk_below (g := gb524) (o := .cells #[.string t516, .int .i64 t517, .int .i64 t518, .string t519, .int .i64 t520, .bool t521, .int .i64 t522] 32 (0, 0)) q99_ hb); have n1_ := Aside0.mk (below_step q68_ hb); clear BK524; clear HB; have BK524 := n0_; have HB := n1_; clear n0_ n1_; (try clear hb)))
         go_ret
         exact ⟨q76_, q68_⟩
       ·rw [if_neg c44] at H
        have c44b0 : decide (0 ≤ t532) = false := decide_eq_false c44
        clear c44
        obtain rfl := Option.some.inj H
        have hcz60_0 : wc.cell? ⟨gb524, 0, none⟩ = some (.string t516) := bz_ BK524 0
        have hcz60_1 : wc.cell? ⟨gb524, 1, none⟩ = some (.int .i64 t517) := bz_ BK524 1
        have hcz60_2 : wc.cell? ⟨gb524, 2, none⟩ = some (.int .i64 t518) := bz_ BK524 2
        have hcz60_3 : wc.cell? ⟨gb524, 3, none⟩ = some (.string t519) := bz_ BK524 3
        have hcz60_4 : wc.cell? ⟨gb524, 4, none⟩ = some (.int .i64 t520) := bz_ BK524 4
        have hcz60_5 : wc.cell? ⟨gb524, 5, none⟩ = some (.bool t521) := bz_ BK524 5
        have hcz60_6 : wc.cell? ⟨gb524, 6, none⟩ = some (.int .i64 t522) := bz_ BK524 6
        have hfz60_0 := blk_frozen BK524.out 0
        have hfz60_1 := blk_frozen BK524.out 1
        have hfz60_2 := blk_frozen BK524.out 2
        have hfz60_3 := blk_frozen BK524.out 3
        have hfz60_4 := blk_frozen BK524.out 4
        have hfz60_5 := blk_frozen BK524.out 5
        have hfz60_6 := blk_frozen BK524.out 6
        go_wp2_with (first | ((with_reducible refine gate_callee (f := 20) rfl ?_); refine goesL_ (some 59) rfl rfl Try.func20 (by kernel_rfl) rfl #[.agg #[.string t516, .int .i64 t517, .int .i64 t518, .string t519, .int .i64 t520, .bool t521, .int .i64 t522]] rfl q74_ ?_; (with_reducible refine (impl_MappedBank.calls kj5 t516 t517 t518 t519 t520 t521 t522 t532 _ A43.out).mono ?_); rintro e w61 ⟨rfl, hb⟩; refine ⟨_, rfl, ?_⟩; have n0_ := Aside0.mk (blk_below (g := gb524) (o := .cells #[.string t516, .int .i64 t517, .int .i64 t518, .string t519, .int .i64 t520, .bool t521, .int .i64 t522] 32 (0, 0)) q99_ hb); have n1_ := Aside0.mk (below_step q68_ hb); clear BK524; clear HB; have BK524 := n0_; have HB := n1_; clear n0_ n1_; (try clear hb)))
        go_ret
        exact ⟨q76_, q68_⟩
      ·rw [if_neg c42] at H
       have c42b0 : decide (t523 < 512) = false := decide_eq_false c42
       clear c42
       by_cases c62 : t523 < 40960
       ·rw [if_pos c62] at H
        have c62b0 : decide (t523 < 40960) = true := decide_eq_true c62
        clear c62
        obtain rfl := Option.some.inj H
        go_wp2
        go_ret
        exact ⟨q76_, q68_⟩
       ·rw [if_neg c62] at H
        have c62b0 : decide (t523 < 40960) = false := decide_eq_false c62
        clear c62
        by_cases c63 : t523 ≥ 41024
        ·rw [if_pos c63] at H
         have c63b0 : decide (41024 ≤ t523) = true := decide_eq_true c63
         clear c63
         obtain rfl := Option.some.inj H
         go_wp2
         go_ret
         exact ⟨q76_, q68_⟩
        ·rw [if_neg c63] at H
         have c63b0 : decide (41024 ≤ t523) = false := decide_eq_false c63
         clear c63
         by_cases c64 : t521 = true
         ·subst c64
          replace H : (some (decide (t525 ≤ 255))) = some r := by rw [if_pos rfl] at H; exact H
          obtain rfl := Option.some.inj H
          have hcz65_0 : wc.cell? ⟨gb524, 0, none⟩ = some (.string t516) := bz_ BK524 0
          have hcz65_1 : wc.cell? ⟨gb524, 1, none⟩ = some (.int .i64 t517) := bz_ BK524 1
          have hcz65_2 : wc.cell? ⟨gb524, 2, none⟩ = some (.int .i64 t518) := bz_ BK524 2
          have hcz65_3 : wc.cell? ⟨gb524, 3, none⟩ = some (.string t519) := bz_ BK524 3
          have hcz65_4 : wc.cell? ⟨gb524, 4, none⟩ = some (.int .i64 t520) := bz_ BK524 4
          have hcz65_5 : wc.cell? ⟨gb524, 5, none⟩ = some (.bool true) := bz_ BK524 5
          have hcz65_6 : wc.cell? ⟨gb524, 6, none⟩ = some (.int .i64 t522) := bz_ BK524 6
          have hfz65_0 := blk_frozen BK524.out 0
          have hfz65_1 := blk_frozen BK524.out 1
          have hfz65_2 := blk_frozen BK524.out 2
          have hfz65_3 := blk_frozen BK524.out 3
          have hfz65_4 := blk_frozen BK524.out 4
          have hfz65_5 := blk_frozen BK524.out 5
          have hfz65_6 := blk_frozen BK524.out 6
          go_wp2
          go_ret
          exact ⟨q76_, q68_⟩
         ·replace c64 := Bool.eq_false_iff.mpr c64
          subst c64
          replace H : (some (t525 == 255)) = some r := by rw [if_neg (show ¬ (false = true) by decide)] at H; exact H
          obtain rfl := Option.some.inj H
          have hcz66_0 : wc.cell? ⟨gb524, 0, none⟩ = some (.string t516) := bz_ BK524 0
          have hcz66_1 : wc.cell? ⟨gb524, 1, none⟩ = some (.int .i64 t517) := bz_ BK524 1
          have hcz66_2 : wc.cell? ⟨gb524, 2, none⟩ = some (.int .i64 t518) := bz_ BK524 2
          have hcz66_3 : wc.cell? ⟨gb524, 3, none⟩ = some (.string t519) := bz_ BK524 3
          have hcz66_4 : wc.cell? ⟨gb524, 4, none⟩ = some (.int .i64 t520) := bz_ BK524 4
          have hcz66_5 : wc.cell? ⟨gb524, 5, none⟩ = some (.bool false) := bz_ BK524 5
          have hcz66_6 : wc.cell? ⟨gb524, 6, none⟩ = some (.int .i64 t522) := bz_ BK524 6
          have hfz66_0 := blk_frozen BK524.out 0
          have hfz66_1 := blk_frozen BK524.out 1
          have hfz66_2 := blk_frozen BK524.out 2
          have hfz66_3 := blk_frozen BK524.out 3
          have hfz66_4 := blk_frozen BK524.out 4
          have hfz66_5 := blk_frozen BK524.out 5
          have hfz66_6 := blk_frozen BK524.out 6
          go_wp2
          go_ret
          exact ⟨q76_, q68_⟩
/-- THE ONE PURE STATEMENT of laws_FnCartReads: yours. -/
def laws_FnCartReads.Pure : Prop := ∀ (l0 : List Int), l0.length ≤ maxLen → l0.length * 1 ≤ 140737488351232 → (∀ x ∈ l0, (Lit.int .u8 x).wf = true) → ∃ k, laws_FnCartReads.f k l0 = some true
theorem laws_FnCartReads.walk (P : laws_FnCartReads.Pure) (a0 : Option Addr) (len0 cap0 : Nat) (z0 : List Int) (w : World) (w0 : (a0 = none ∧ len0 = 0 ∧ cap0 = 0 ∧ z0 = []) ∨ ∃ x, a0 = some x ∧ len0 ≤ cap0 ∧ cap0 ≤ maxLen ∧ z0.length = cap0 ∧ (∀ i, i < z0.length → w.cell? (x.add i) = some (.int .u8 (z0.getD i 0))) ∧ ∀ n ∈ z0, (Lit.int .u8 n).wf = true) (y0 : len0 * 1 ≤ 140737488351232) :
  Calls Try.prog 7 #[.slice a0 len0 cap0] w fun e w' => e = .returned (.bool true) ∧ Below w.heap.size w w' := by
 obtain ⟨l0, rfl, hr0, hm0, hw0, hc0⟩ := ReadsInt.ofRowC w0
 obtain ⟨k, h⟩ := P l0 hm0 y0 hw0
 refine (laws_FnCartReads.calls k _ _ l0 true w (Kd.C_of_reads (d := (0 : Int)) (h1 := fun _ => rfl) hr0) hc0 h).mono ?_
 rintro e w' ⟨rfl, hd⟩
 exact ⟨rfl, hd⟩
end Go.Proofs.Ytcohcndliaaacaa.QFnCartReads
