/- The machine's side of a law, written by a program of this session for this claim. -/
import Derived.Test.YtcohcndliaaacaaZFnCartNewQq
import Derived.Test.YtcohcndliaaacaaZFnCartNewQFnCartNewx0
import Derived.Test.YtcohcndliaaacaaZFnCartNewQFnCartNewx2
import Derived.Test.YtcohcndliaaacaaZFnCartNewQFnCartNewx3
import Derived.Test.YtcohcndliaaacaaZFnCartNewQFnCartNewx9
import Derived.Test.YtcohcndliaaacaaZFnCartNewQFnCartNewx10
namespace Go.Proofs.Ytcohcndliaaacaa.QFnCartNew
open Go.Proofs.Ytcohcndliaaacaa.Qq
open Go.RowKit Go.Proofs.Ytcohcndliaaacaa.LibX Go.Proofs.Ytcohcndliaaacaa.LibC Go.Proofs.Ytcohcndliaaacaa.LibE Go.Proofs.YtcohcndliaaacaaW.PrintWords Go.Proofs.YtcohcndliaaacaaW.PrintLast Go.Proofs.YtcohcndliaaacaaW.PrintMore
attribute [local go_sem] max2_int min2_int max_two min_two max_three min_three max_four min_four   -- for this text's walks alone
set_option maxHeartbeats 8000000
set_option maxRecDepth 100000
set_option linter.unusedVariables false
set_option linter.unusedSimpArgs false
mutual
def laws_FnCartNew.j0 : Nat → ByteArray → Bool → Bool → Bool → ByteArray → Int → Int → ByteArray → Int → Bool → Int → ByteArray → Int → Int → ByteArray → Int → Bool → Int → Option (Bool)
 | 0, _, _, _, _, _, _, _, _, _, _, _, _, _, _, _, _, _, _ => none
 | k + 1, x3, x6, x8, x41, x448000, x448001, x448002, x448003, x448004, x448005, x448006, x457000, x457001, x457002, x457003, x457004, x457005, x457006 => if x41 = true then (if (x6 == x8) = true then ((laws_sameCart.f x448000 x448001 x448002 x448003 x448004 x448005 x448006 x457000 x457001 x457002 x457003 x457004 x457005 x457006).bind fun t458 => (some t458)) else (some false)) else (laws_FnCartNew.l0 k x3 0 x448000 x448001 x448002 x448003 x448004 x448005 x448006)
def laws_FnCartNew.l0 : Nat → ByteArray → Int → ByteArray → Int → Int → ByteArray → Int → Bool → Int → Option (Bool)
 | 0, _, _, _, _, _, _, _, _, _ => none
 | k + 1, x3, x9, x448000, x448001, x448002, x448003, x448004, x448005, x448006 => if x9 < 512 then ((impl_CartRead.f k x448000 x448001 x448002 x448003 x448004 x448005 x448006 x9).bind fun t459 => (if 0 ≤ x9 then (if x9 < (x3.size : Int) then (if t459 = (wrap64 (bt x3 x9)) then (laws_FnCartNew.l0 k x3 (wrap64 (x9 + 37)) x448000 x448001 x448002 x448003 x448004 x448005 x448006) else (some false)) else (none)) else (none))) else ((impl_CartOk.f k x448000 x448001 x448002 x448003 x448004 x448005 x448006).bind fun t460 => (if t460 = true then ((impl_MappedBank.f k x448000 x448001 x448002 x448003 x448004 x448005 x448006).bind fun t461 => (if t461 = 1 then ((impl_CartRead.f k x448000 x448001 x448002 x448003 x448004 x448005 x448006 40960).bind fun t462 => (some (t462 == 255))) else (some false))) else (some false)))
end
def laws_FnCartNew.f (k : Nat) (l0 : List Int) : Option (Bool) := (laws_big.f l0).bind fun t436 => (if t436 = true then (some true) else ((spec_DrawCartNew.f k l0).bind fun bt437 => ((impl_CartNew.f k bt437.1 bt437.2).bind fun bt439 => ((spec_CartNew.f k bt437.1 bt437.2).bind fun bt448 => (if (bt439.2.2.2.2.2.2.2 != bt448.2.2.2.2.2.2.2) = true then (laws_FnCartNew.j0 k bt437.1 bt439.2.2.2.2.2.2.2 bt448.2.2.2.2.2.2.2 true bt439.1 bt439.2.1 bt439.2.2.1 bt439.2.2.2.1 bt439.2.2.2.2.1 bt439.2.2.2.2.2.1 bt439.2.2.2.2.2.2.1 bt448.1 bt448.2.1 bt448.2.2.1 bt448.2.2.2.1 bt448.2.2.2.2.1 bt448.2.2.2.2.2.1 bt448.2.2.2.2.2.2.1) else ((laws_sameCart.f bt439.1 bt439.2.1 bt439.2.2.1 bt439.2.2.2.1 bt439.2.2.2.2.1 bt439.2.2.2.2.2.1 bt439.2.2.2.2.2.2.1 bt448.1 bt448.2.1 bt448.2.2.1 bt448.2.2.2.1 bt448.2.2.2.2.1 bt448.2.2.2.2.2.1 bt448.2.2.2.2.2.2.1).bind fun t457 => (if t457 = true then (laws_FnCartNew.j0 k bt437.1 bt439.2.2.2.2.2.2.2 bt448.2.2.2.2.2.2.2 (!bt439.2.2.2.2.2.2.2) bt439.1 bt439.2.1 bt439.2.2.1 bt439.2.2.2.1 bt439.2.2.2.2.1 bt439.2.2.2.2.2.1 bt439.2.2.2.2.2.2.1 bt448.1 bt448.2.1 bt448.2.2.1 bt448.2.2.2.1 bt448.2.2.2.2.1 bt448.2.2.2.2.2.1 bt448.2.2.2.2.2.2.1) else (laws_FnCartNew.j0 k bt437.1 bt439.2.2.2.2.2.2.2 bt448.2.2.2.2.2.2.2 true bt439.1 bt439.2.1 bt439.2.2.1 bt439.2.2.2.1 bt439.2.2.2.2.1 bt439.2.2.2.2.2.1 bt439.2.2.2.2.2.2.1 bt448.1 bt448.2.1 bt448.2.2.1 bt448.2.2.2.1 bt448.2.2.2.2.1 bt448.2.2.2.2.2.1 bt448.2.2.2.2.2.2.1))))))))
theorem laws_FnCartNew.mono_l : ∀ k, (∀ y0 y1 y2 y3 y4 y5 y6 y7 y8 y9 y10 y11 y12 y13 y14 y15 y16 y17, LeO (laws_FnCartNew.j0 k y0 y1 y2 y3 y4 y5 y6 y7 y8 y9 y10 y11 y12 y13 y14 y15 y16 y17) (laws_FnCartNew.j0 (k + 1) y0 y1 y2 y3 y4 y5 y6 y7 y8 y9 y10 y11 y12 y13 y14 y15 y16 y17)) ∧ (∀ y0 y1 y2 y3 y4 y5 y6 y7 y8, LeO (laws_FnCartNew.l0 k y0 y1 y2 y3 y4 y5 y6 y7 y8) (laws_FnCartNew.l0 (k + 1) y0 y1 y2 y3 y4 y5 y6 y7 y8))
 | 0 => ⟨fun _ _ _ _ _ _ _ _ _ _ _ _ _ _ _ _ _ _ r h => by simp [laws_FnCartNew.j0] at h, fun _ _ _ _ _ _ _ _ _ r h => by simp [laws_FnCartNew.l0] at h⟩
 | k + 1 => by
  obtain ⟨ih0, ih1⟩ := laws_FnCartNew.mono_l k
  refine ⟨?_, ?_⟩
  ·intro y0 y1 y2 y3 y4 y5 y6 y7 y8 y9 y10 y11 y12 y13 y14 y15 y16 y17
   unfold laws_FnCartNew.j0
   repeat' first
   | (with_reducible first | exact ih0 _ _ _ _ _ _ _ _ _ _ _ _ _ _ _ _ _ _ | exact ih1 _ _ _ _ _ _ _ _ _ | exact impl_CartNew.mono _ _ _ | exact impl_CartOk.mono _ _ _ _ _ _ _ _ | exact impl_CartRead.mono _ _ _ _ _ _ _ _ _ | exact impl_MappedBank.mono _ _ _ _ _ _ _ _ | exact spec_CartNew.mono _ _ _ | exact spec_DrawCartNew.mono _ _ | exact LeO.refl _ | exact LeO.none _ | refine LeO.ite ?_ ?_ | refine LeO.bind ?_ (fun _ => ?_))
   | exact ih0 _ _ _ _ _ _ _ _ _ _ _ _ _ _ _ _ _ _
   | exact ih1 _ _ _ _ _ _ _ _ _
   | exact impl_CartNew.mono _ _ _
   | exact impl_CartOk.mono _ _ _ _ _ _ _ _
   | exact impl_CartRead.mono _ _ _ _ _ _ _ _ _
   | exact impl_MappedBank.mono _ _ _ _ _ _ _ _
   | exact spec_CartNew.mono _ _ _
   | exact spec_DrawCartNew.mono _ _
   | exact LeO.none _
   | refine LeO.ite ?_ ?_
   | refine LeO.bind ?_ (fun _ => ?_)
  ·intro y0 y1 y2 y3 y4 y5 y6 y7 y8
   unfold laws_FnCartNew.l0
   repeat' first
   | (with_reducible first | exact ih0 _ _ _ _ _ _ _ _ _ _ _ _ _ _ _ _ _ _ | exact ih1 _ _ _ _ _ _ _ _ _ | exact impl_CartNew.mono _ _ _ | exact impl_CartOk.mono _ _ _ _ _ _ _ _ | exact impl_CartRead.mono _ _ _ _ _ _ _ _ _ | exact impl_MappedBank.mono _ _ _ _ _ _ _ _ | exact spec_CartNew.mono _ _ _ | exact spec_DrawCartNew.mono _ _ | exact LeO.refl _ | exact LeO.none _ | refine LeO.ite ?_ ?_ | refine LeO.bind ?_ (fun _ => ?_))
   | exact ih0 _ _ _ _ _ _ _ _ _ _ _ _ _ _ _ _ _ _
   | exact ih1 _ _ _ _ _ _ _ _ _
   | exact impl_CartNew.mono _ _ _
   | exact impl_CartOk.mono _ _ _ _ _ _ _ _
   | exact impl_CartRead.mono _ _ _ _ _ _ _ _ _
   | exact impl_MappedBank.mono _ _ _ _ _ _ _ _
   | exact spec_CartNew.mono _ _ _
   | exact spec_DrawCartNew.mono _ _
   | exact LeO.none _
   | refine LeO.ite ?_ ?_
   | refine LeO.bind ?_ (fun _ => ?_)
theorem laws_FnCartNew.mono : ∀ a0 k, LeO (laws_FnCartNew.f k a0) (laws_FnCartNew.f (k + 1) a0) := by
 intro a0 k
 obtain ⟨ih0, ih1⟩ := laws_FnCartNew.mono_l k
 unfold laws_FnCartNew.f
 repeat' first
   | (with_reducible first | exact ih0 _ _ _ _ _ _ _ _ _ _ _ _ _ _ _ _ _ _ | exact ih1 _ _ _ _ _ _ _ _ _ | exact impl_CartNew.mono _ _ _ | exact impl_CartOk.mono _ _ _ _ _ _ _ _ | exact impl_CartRead.mono _ _ _ _ _ _ _ _ _ | exact impl_MappedBank.mono _ _ _ _ _ _ _ _ | exact spec_CartNew.mono _ _ _ | exact spec_DrawCartNew.mono _ _ | exact LeO.refl _ | exact LeO.none _ | refine LeO.ite ?_ ?_ | refine LeO.bind ?_ (fun _ => ?_))
   | exact ih0 _ _ _ _ _ _ _ _ _ _ _ _ _ _ _ _ _ _
   | exact ih1 _ _ _ _ _ _ _ _ _
   | exact impl_CartNew.mono _ _ _
   | exact impl_CartOk.mono _ _ _ _ _ _ _ _
   | exact impl_CartRead.mono _ _ _ _ _ _ _ _ _
   | exact impl_MappedBank.mono _ _ _ _ _ _ _ _
   | exact spec_CartNew.mono _ _ _
   | exact spec_DrawCartNew.mono _ _
   | exact LeO.none _
   | refine LeO.ite ?_ ?_
   | refine LeO.bind ?_ (fun _ => ?_)
def laws_FnCartNew.T11 : Bool × List (List Nat × List Nat) := (true, [([], []), ([], []), ([0, 1], [0, 1]), ([], []), ([], []), ([3, 4], [3, 4]), ([5], [5]), ([2, 6], [2, 6])])
def laws_FnCartNew.B11 : List Nat := [0, 0, 3, 0, 0, 24, 56, 127]
theorem laws_FnCartNew.tab11 : rtab .any (opsOf Try.f9 11) = laws_FnCartNew.T11 := by kernel_rfl
theorem laws_FnCartNew.bits11 : waitsOk laws_FnCartNew.T11.2 laws_FnCartNew.B11 = true := by kernel_rfl
theorem laws_FnCartNew.calls (k : Nat) (A0 : Option Addr) (c0 : Nat) (l0 : List Int) (r : Bool) (w : World) (hr0 : Kd.C (Kd.int .u8) w A0 l0.length l0) (hc0 : l0.length ≤ c0) (h : laws_FnCartNew.f k l0 = some r) :
  Calls Try.prog 9 #[.slice A0 l0.length c0] w fun e w' => e = .returned (.bool r) ∧ Below w.heap.size w w' := by
 have hu32 := Try.underlying32
 have HR0 := Aside0.mk hr0
 have HC0 := Aside0.mk hc0
 clear hr0 hc0
 have HB := Aside0.mk (Below.refl w.heap.size w)
 have H : ((laws_big.f l0).bind fun t436 => (if t436 = true then (some true) else ((spec_DrawCartNew.f k l0).bind fun bt437 => ((impl_CartNew.f k bt437.1 bt437.2).bind fun bt439 => ((spec_CartNew.f k bt437.1 bt437.2).bind fun bt448 => (if (bt439.2.2.2.2.2.2.2 != bt448.2.2.2.2.2.2.2) = true then (laws_FnCartNew.j0 k bt437.1 bt439.2.2.2.2.2.2.2 bt448.2.2.2.2.2.2.2 true bt439.1 bt439.2.1 bt439.2.2.1 bt439.2.2.2.1 bt439.2.2.2.2.1 bt439.2.2.2.2.2.1 bt439.2.2.2.2.2.2.1 bt448.1 bt448.2.1 bt448.2.2.1 bt448.2.2.2.1 bt448.2.2.2.2.1 bt448.2.2.2.2.2.1 bt448.2.2.2.2.2.2.1) else ((laws_sameCart.f bt439.1 bt439.2.1 bt439.2.2.1 bt439.2.2.2.1 bt439.2.2.2.2.1 bt439.2.2.2.2.2.1 bt439.2.2.2.2.2.2.1 bt448.1 bt448.2.1 bt448.2.2.1 bt448.2.2.2.1 bt448.2.2.2.2.1 bt448.2.2.2.2.2.1 bt448.2.2.2.2.2.2.1).bind fun t457 => (if t457 = true then (laws_FnCartNew.j0 k bt437.1 bt439.2.2.2.2.2.2.2 bt448.2.2.2.2.2.2.2 (!bt439.2.2.2.2.2.2.2) bt439.1 bt439.2.1 bt439.2.2.1 bt439.2.2.2.1 bt439.2.2.2.2.1 bt439.2.2.2.2.2.1 bt439.2.2.2.2.2.2.1 bt448.1 bt448.2.1 bt448.2.2.1 bt448.2.2.2.1 bt448.2.2.2.2.1 bt448.2.2.2.2.2.1 bt448.2.2.2.2.2.2.1) else (laws_FnCartNew.j0 k bt437.1 bt439.2.2.2.2.2.2.2 bt448.2.2.2.2.2.2.2 true bt439.1 bt439.2.1 bt439.2.2.1 bt439.2.2.2.1 bt439.2.2.2.2.1 bt439.2.2.2.2.2.1 bt439.2.2.2.2.2.2.1 bt448.1 bt448.2.1 bt448.2.2.1 bt448.2.2.2.1 bt448.2.2.2.2.1 bt448.2.2.2.2.2.1 bt448.2.2.2.2.2.2.1))))))))) = some r := h
 clear h
 replace H := Option.bind_eq_some_iff.mp H
 obtain ⟨t436, A20, H⟩ := H
 have A2 := Aside0.mk A20
 clear A20
 by_cases c3 : t436 = true
 ·subst c3
  replace H : (some true) = some r := by rw [if_pos rfl] at H; exact H
  obtain rfl := Option.some.inj H
  go_enter Try.func9, Try.ntmps9
  go_wp2_with (first | ((with_reducible refine gate_callee (f := 12) rfl ?_); refine goesL_ (some 11) rfl rfl Try.func12 (by kernel_rfl) rfl #[.slice A0 l0.length c0] rfl q53_ ?_; (with_reducible refine (laws_big.calls _ _ l0 true _ ?side1 ?side2 A2.out).mono ?_); (case side1 => exact q107_); (case side2 => exact HC0.out); rintro e w' ⟨rfl, ⟨nd, rfl⟩⟩; refine ⟨_, rfl, ?_⟩))
  go_ret
  exact ⟨q55_, q54_⟩
 ·replace c3 := Bool.eq_false_iff.mpr c3
  subst c3
  replace H : ((spec_DrawCartNew.f k l0).bind fun bt437 => ((impl_CartNew.f k bt437.1 bt437.2).bind fun bt439 => ((spec_CartNew.f k bt437.1 bt437.2).bind fun bt448 => (if (bt439.2.2.2.2.2.2.2 != bt448.2.2.2.2.2.2.2) = true then (laws_FnCartNew.j0 k bt437.1 bt439.2.2.2.2.2.2.2 bt448.2.2.2.2.2.2.2 true bt439.1 bt439.2.1 bt439.2.2.1 bt439.2.2.2.1 bt439.2.2.2.2.1 bt439.2.2.2.2.2.1 bt439.2.2.2.2.2.2.1 bt448.1 bt448.2.1 bt448.2.2.1 bt448.2.2.2.1 bt448.2.2.2.2.1 bt448.2.2.2.2.2.1 bt448.2.2.2.2.2.2.1) else ((laws_sameCart.f bt439.1 bt439.2.1 bt439.2.2.1 bt439.2.2.2.1 bt439.2.2.2.2.1 bt439.2.2.2.2.2.1 bt439.2.2.2.2.2.2.1 bt448.1 bt448.2.1 bt448.2.2.1 bt448.2.2.2.1 bt448.2.2.2.2.1 bt448.2.2.2.2.2.1 bt448.2.2.2.2.2.2.1).bind fun t457 => (if t457 = true then (laws_FnCartNew.j0 k bt437.1 bt439.2.2.2.2.2.2.2 bt448.2.2.2.2.2.2.2 (!bt439.2.2.2.2.2.2.2) bt439.1 bt439.2.1 bt439.2.2.1 bt439.2.2.2.1 bt439.2.2.2.2.1 bt439.2.2.2.2.2.1 bt439.2.2.2.2.2.2.1 bt448.1 bt448.2.1 bt448.2.2.1 bt448.2.2.2.1 bt448.2.2.2.2.1 bt448.2.2.2.2.2.1 bt448.2.2.2.2.2.2.1) else (laws_FnCartNew.j0 k bt437.1 bt439.2.2.2.2.2.2.2 bt448.2.2.2.2.2.2.2 true bt439.1 bt439.2.1 bt439.2.2.1 bt439.2.2.2.1 bt439.2.2.2.2.1 bt439.2.2.2.2.2.1 bt439.2.2.2.2.2.2.1 bt448.1 bt448.2.1 bt448.2.2.1 bt448.2.2.2.1 bt448.2.2.2.2.1 bt448.2.2.2.2.2.1 bt448.2.2.2.2.2.2.1))))))) = some r := by rw [if_neg (show ¬ (false = true) by decide)] at H; exact H
  replace H := Option.bind_eq_some_iff.mp H
  obtain ⟨⟨t437, t438⟩, A40, H⟩ := H
  replace H : ((impl_CartNew.f k t437 t438).bind fun bt439 => ((spec_CartNew.f k t437 t438).bind fun bt448 => (if (bt439.2.2.2.2.2.2.2 != bt448.2.2.2.2.2.2.2) = true then (laws_FnCartNew.j0 k t437 bt439.2.2.2.2.2.2.2 bt448.2.2.2.2.2.2.2 true bt439.1 bt439.2.1 bt439.2.2.1 bt439.2.2.2.1 bt439.2.2.2.2.1 bt439.2.2.2.2.2.1 bt439.2.2.2.2.2.2.1 bt448.1 bt448.2.1 bt448.2.2.1 bt448.2.2.2.1 bt448.2.2.2.2.1 bt448.2.2.2.2.2.1 bt448.2.2.2.2.2.2.1) else ((laws_sameCart.f bt439.1 bt439.2.1 bt439.2.2.1 bt439.2.2.2.1 bt439.2.2.2.2.1 bt439.2.2.2.2.2.1 bt439.2.2.2.2.2.2.1 bt448.1 bt448.2.1 bt448.2.2.1 bt448.2.2.2.1 bt448.2.2.2.2.1 bt448.2.2.2.2.2.1 bt448.2.2.2.2.2.2.1).bind fun t457 => (if t457 = true then (laws_FnCartNew.j0 k t437 bt439.2.2.2.2.2.2.2 bt448.2.2.2.2.2.2.2 (!bt439.2.2.2.2.2.2.2) bt439.1 bt439.2.1 bt439.2.2.1 bt439.2.2.2.1 bt439.2.2.2.2.1 bt439.2.2.2.2.2.1 bt439.2.2.2.2.2.2.1 bt448.1 bt448.2.1 bt448.2.2.1 bt448.2.2.2.1 bt448.2.2.2.2.1 bt448.2.2.2.2.2.1 bt448.2.2.2.2.2.2.1) else (laws_FnCartNew.j0 k t437 bt439.2.2.2.2.2.2.2 bt448.2.2.2.2.2.2.2 true bt439.1 bt439.2.1 bt439.2.2.1 bt439.2.2.2.1 bt439.2.2.2.2.1 bt439.2.2.2.2.2.1 bt439.2.2.2.2.2.2.1 bt448.1 bt448.2.1 bt448.2.2.1 bt448.2.2.2.1 bt448.2.2.2.2.1 bt448.2.2.2.2.2.1 bt448.2.2.2.2.2.2.1)))))) = some r := H
  have A4 := Aside0.mk A40
  clear A40
  replace H := Option.bind_eq_some_iff.mp H
  obtain ⟨⟨t439, t440, t441, t442, t443, t444, t445, t446⟩, A50, H⟩ := H
  replace H : ((spec_CartNew.f k t437 t438).bind fun bt448 => (if (t446 != bt448.2.2.2.2.2.2.2) = true then (laws_FnCartNew.j0 k t437 t446 bt448.2.2.2.2.2.2.2 true t439 t440 t441 t442 t443 t444 t445 bt448.1 bt448.2.1 bt448.2.2.1 bt448.2.2.2.1 bt448.2.2.2.2.1 bt448.2.2.2.2.2.1 bt448.2.2.2.2.2.2.1) else ((laws_sameCart.f t439 t440 t441 t442 t443 t444 t445 bt448.1 bt448.2.1 bt448.2.2.1 bt448.2.2.2.1 bt448.2.2.2.2.1 bt448.2.2.2.2.2.1 bt448.2.2.2.2.2.2.1).bind fun t457 => (if t457 = true then (laws_FnCartNew.j0 k t437 t446 bt448.2.2.2.2.2.2.2 (!t446) t439 t440 t441 t442 t443 t444 t445 bt448.1 bt448.2.1 bt448.2.2.1 bt448.2.2.2.1 bt448.2.2.2.2.1 bt448.2.2.2.2.2.1 bt448.2.2.2.2.2.2.1) else (laws_FnCartNew.j0 k t437 t446 bt448.2.2.2.2.2.2.2 true t439 t440 t441 t442 t443 t444 t445 bt448.1 bt448.2.1 bt448.2.2.1 bt448.2.2.2.1 bt448.2.2.2.2.1 bt448.2.2.2.2.2.1 bt448.2.2.2.2.2.2.1))))) = some r := H
  have A5 := Aside0.mk A50
  clear A50
  replace H := Option.bind_eq_some_iff.mp H
  obtain ⟨⟨t448, t449, t450, t451, t452, t453, t454, t455⟩, A60, H⟩ := H
  replace H : (if (t446 != t455) = true then (laws_FnCartNew.j0 k t437 t446 t455 true t439 t440 t441 t442 t443 t444 t445 t448 t449 t450 t451 t452 t453 t454) else ((laws_sameCart.f t439 t440 t441 t442 t443 t444 t445 t448 t449 t450 t451 t452 t453 t454).bind fun t457 => (if t457 = true then (laws_FnCartNew.j0 k t437 t446 t455 (!t446) t439 t440 t441 t442 t443 t444 t445 t448 t449 t450 t451 t452 t453 t454) else (laws_FnCartNew.j0 k t437 t446 t455 true t439 t440 t441 t442 t443 t444 t445 t448 t449 t450 t451 t452 t453 t454)))) = some r := H
  have A6 := Aside0.mk A60
  clear A60
  have HC7 := Aside0.mk H
  clear H
  go_enter Try.func9, Try.ntmps9
  go_upto_region 6 with (first | ((with_reducible refine gate_callee (f := 12) rfl ?_); refine goesL_ (some 11) rfl rfl Try.func12 (by kernel_rfl) rfl #[.slice A0 l0.length c0] rfl q53_ ?_; (with_reducible refine (laws_big.calls _ _ l0 false _ ?side1 ?side2 A2.out).mono ?_); (case side1 => exact q107_); (case side2 => exact HC0.out); rintro e w' ⟨rfl, ⟨nd, rfl⟩⟩; refine ⟨_, rfl, ?_⟩) | ((with_reducible refine gate_callee (f := 28) rfl ?_); refine goesL_ (some 14) rfl rfl Try.func28 (by kernel_rfl) rfl #[.slice A0 l0.length c0] rfl q53_ ?_; (with_reducible refine (spec_DrawCartNew.calls k _ _ l0 t437 t438 _ ?side1 ?side2 A4.out).mono ?_); (case side1 => exact q107_); (case side2 => exact HC0.out); rintro e w8 ⟨rfl, hb⟩; refine ⟨_, rfl, ?_⟩; replace HB := Aside0.mk (below_step q54_ hb); (try clear hb)) | ((with_reducible refine gate_callee (f := 29) rfl ?_); refine goesL_ (some 20) rfl rfl Try.func29 (by kernel_rfl) rfl #[.string t437, .int .i64 t438] rfl q53_ ?_; (with_reducible refine (impl_CartNew.calls k t437 t438 t439 t440 t441 t442 t443 t444 t445 t446 _ A5.out).mono ?_); rintro e w9 ⟨rfl, hb⟩; refine ⟨_, rfl, ?_⟩; replace HB := Aside0.mk (below_step q54_ hb); (try clear hb)) | ((with_reducible refine gate_dst (N := 5) rfl ?_); refine box_event ?hg (N := 5) ?hd (cs := #[.string (⟨#[]⟩ : ByteArray), .int .i64 0, .int .i64 0, .string (⟨#[]⟩ : ByteArray), .int .i64 0, .bool false, .int .i64 0]) (t := 32) ?hr ?_; (case hd => rfl); (case hg => rfl); (case hr => exact q109_); intro gb447 hg w10 hbox hb; have n0_ := Aside0.mk (below_step q54_ hb); have n1_ := Aside0.mk (hbox); have n2_ := Aside0.mk ((q39_ : w.heap.size ≤ gb447)); have n3_ := Aside0.mk ((q39_ : w.heap.size ≤ gb447)); clear HB; have HB := n0_; have BK447 := n1_; have GW447 := n2_; have GE447 := n3_; clear n0_ n1_ n2_ n3_; clear hb hbox hg; have hcz11_0 : w10.cell? ⟨gb447, 0, none⟩ = some (.string (⟨#[]⟩ : ByteArray)) := (blk_cell BK447.out 0).trans rfl; have hcz11_1 : w10.cell? ⟨gb447, 1, none⟩ = some (.int .i64 0) := (blk_cell BK447.out 1).trans rfl; have hcz11_2 : w10.cell? ⟨gb447, 2, none⟩ = some (.int .i64 0) := (blk_cell BK447.out 2).trans rfl; have hcz11_3 : w10.cell? ⟨gb447, 3, none⟩ = some (.string (⟨#[]⟩ : ByteArray)) := (blk_cell BK447.out 3).trans rfl; have hcz11_4 : w10.cell? ⟨gb447, 4, none⟩ = some (.int .i64 0) := (blk_cell BK447.out 4).trans rfl; have hcz11_5 : w10.cell? ⟨gb447, 5, none⟩ = some (.bool false) := (blk_cell BK447.out 5).trans rfl; have hcz11_6 : w10.cell? ⟨gb447, 6, none⟩ = some (.int .i64 0) := (blk_cell BK447.out 6).trans rfl; have hfz11_0 := blk_frozen BK447.out 0; have hfz11_1 := blk_frozen BK447.out 1; have hfz11_2 := blk_frozen BK447.out 2; have hfz11_3 := blk_frozen BK447.out 3; have hfz11_4 := blk_frozen BK447.out 4; have hfz11_5 := blk_frozen BK447.out 5; have hfz11_6 := blk_frozen BK447.out 6) | ((with_reducible refine gate_callee (f := 30) rfl ?_); refine goesL_ (some 26) rfl rfl Try.func30 (by kernel_rfl) rfl #[.string t437, .int .i64 t438] rfl q53_ ?_; (with_reducible refine (spec_CartNew.calls k t437 t438 t448 t449 t450 t451 t452 t453 t454 t455 _ A6.out).mono ?_); rintro e w12 ⟨rfl, hb⟩; refine ⟨_, rfl, ?_⟩; have n0_ := Aside0.mk (blk_below (g := gb447) (o := .cells #[.string t439, .int .i64 t440, .int .i64 t441, .string t442, .int .i64 t443, .bool t444, .int .i64 t445] 32 (0, 0)) (by (with_reducible repeat (first | refine blk_drewN ?_ _ | refine blk_drew ?_ | refine blk_alloc ?_ _)); refine blk_put (cs := #[.string t439, .int .i64 t440, .int .i64 t441, .string t442, .int .i64 t443, .bool t444, .int .i64 0]) ?_ 6 _ rfl; (with_reducible repeat (first | refine blk_drewN ?_ _ | refine blk_drew ?_ | refine blk_alloc ?_ _)); refine blk_put (cs := #[.string t439, .int .i64 t440, .int .i64 t441, .string t442, .int .i64 t443, .bool false, .int .i64 0]) ?_ 5 _ rfl; (with_reducible repeat (first | refine blk_drewN ?_ _ | refine blk_drew ?_ | refine blk_alloc ?_ _)); refine blk_put (cs := #[.string t439, .int .i64 t440, .int .i64 t441, .string t442, .int .i64 0, .bool false, .int .i64 0]) ?_ 4 _ rfl; (with_reducible repeat (first | refine blk_drewN ?_ _ | refine blk_drew ?_ | refine blk_alloc ?_ _)); refine blk_put (cs := #[.string t439, .int .i64 t440, .int .i64 t441, .string (⟨#[]⟩ : ByteArray), .int .i64 0, .bool false, .int .i64 0]) ?_ 3 _ rfl; (with_reducible repeat (first | refine blk_drewN ?_ _ | refine blk_drew ?_ | refine blk_alloc ?_ _)); refine blk_put (cs := #[.string t439, .int .i64 t440, .int .i64 0, .string (⟨#[]⟩ : ByteArray), .int .i64 0, .bool false, .int .i64 0]) ?_ 2 _ rfl; (with_reducible repeat (first | refine blk_drewN ?_ _ | refine blk_drew ?_ | refine blk_alloc ?_ _)); refine blk_put (cs := #[.string t439, .int .i64 0, .int .i64 0, .string (⟨#[]⟩ : ByteArray), .int .i64 0, .bool false, .int .i64 0]) ?_ 1 _ rfl; (with_reducible repeat (first | refine blk_drewN ?_ _ | refine blk_drew ?_ | refine blk_alloc ?_ _)); refine blk_put (cs := #[.string (⟨#[]⟩ : ByteArray), .int .i64 0, .int .i64 0, .string (⟨#[]⟩ : ByteArray), .int .i64 0, .bool false, .int .i64 0]) ?_ 0 _ rfl; (with_reducible repeat (first | refine blk_drewN ?_ _ | refine blk_drew ?_ | refine blk_alloc ?_ _)); exact BK447.out) hb); have n1_ := Aside0.mk (below_step q50_ hb); clear BK447; clear HB; have BK447 := n0_; have HB := n1_; clear n0_ n1_; (try clear hb)) | ((with_reducible refine gate_dst (N := 7) rfl ?_); refine box_event ?hg (N := 7) ?hd (cs := #[.string (⟨#[]⟩ : ByteArray), .int .i64 0, .int .i64 0, .string (⟨#[]⟩ : ByteArray), .int .i64 0, .bool false, .int .i64 0]) (t := 32) ?hr ?_; (case hd => rfl); (case hg => rfl); (case hr => exact q109_); intro gb456 hg w13 hbox hb; have n0_ := Aside0.mk (blk_below (g := gb447) (o := .cells #[.string t439, .int .i64 t440, .int .i64 t441, .string t442, .int .i64 t443, .bool t444, .int .i64 t445] 32 (0, 0)) q71_ hb); have n1_ := Aside0.mk (below_step q50_ hb); have n2_ := Aside0.mk (hbox); have n3_ := Aside0.mk ((q31_ : w.heap.size ≤ gb456)); have n4_ := Aside0.mk ((q31_ : w.heap.size ≤ gb456)); have n5_ := Aside0.mk ((by rw [hg]; exact Nat.ne_of_lt (blk_lt (g := gb447) (o := .cells #[.string t439, .int .i64 t440, .int .i64 t441, .string t442, .int .i64 t443, .bool t444, .int .i64 t445] 32 (0, 0)) q71_) : gb447 ≠ gb456)); have n6_ := Aside0.mk ((by rw [hg]; exact Nat.ne_of_gt (blk_lt (g := gb447) (o := .cells #[.string t439, .int .i64 t440, .int .i64 t441, .string t442, .int .i64 t443, .bool t444, .int .i64 t445] 32 (0, 0)) q71_) : gb456 ≠ gb447)); clear BK447; clear HB; have BK447 := n0_; have HB := n1_; have BK456 := n2_; have GW456 := n3_; have GE456 := n4_; have NB447_456 := n5_; have NB456_447 := n6_; clear n0_ n1_ n2_ n3_ n4_ n5_ n6_; clear hb hbox hg; have hnb14 := NB456_447.out; have hnc14 := NB447_456.out; have hcz15_0 : w13.cell? ⟨gb456, 0, none⟩ = some (.string (⟨#[]⟩ : ByteArray)) := (blk_cell BK456.out 0).trans rfl; have hcz15_1 : w13.cell? ⟨gb456, 1, none⟩ = some (.int .i64 0) := (blk_cell BK456.out 1).trans rfl; have hcz15_2 : w13.cell? ⟨gb456, 2, none⟩ = some (.int .i64 0) := (blk_cell BK456.out 2).trans rfl; have hcz15_3 : w13.cell? ⟨gb456, 3, none⟩ = some (.string (⟨#[]⟩ : ByteArray)) := (blk_cell BK456.out 3).trans rfl; have hcz15_4 : w13.cell? ⟨gb456, 4, none⟩ = some (.int .i64 0) := (blk_cell BK456.out 4).trans rfl; have hcz15_5 : w13.cell? ⟨gb456, 5, none⟩ = some (.bool false) := (blk_cell BK456.out 5).trans rfl; have hcz15_6 : w13.cell? ⟨gb456, 6, none⟩ = some (.int .i64 0) := (blk_cell BK456.out 6).trans rfl; have hfz15_0 := blk_frozen BK456.out 0; have hfz15_1 := blk_frozen BK456.out 1; have hfz15_2 := blk_frozen BK456.out 2; have hfz15_3 := blk_frozen BK456.out 3; have hfz15_4 := blk_frozen BK456.out 4; have hfz15_5 := blk_frozen BK456.out 5; have hfz15_6 := blk_frozen BK456.out 6))
  (try simp only [Act.put, List.setIfInBounds_toArray, List.set_cons_zero, List.set_cons_succ])
  go_cut [41] (fun v41 wc => ∃ (kq : Nat) (x41_6 : Bool), v41 = .bool x41_6 ∧ Aside0 (laws_FnCartNew.j0 kq t437 t446 t455 x41_6 t439 t440 t441 t442 t443 t444 t445 t448 t449 t450 t451 t452 t453 t454 = some r) ∧ Aside0 (kq ≤ k) ∧ Aside0 (wc.heap[gb447]? = some (.cells #[.string t439, .int .i64 t440, .int .i64 t441, .string t442, .int .i64 t443, .bool t444, .int .i64 t445] 32 (0, 0))) ∧ Aside0 (wc.heap[gb456]? = some (.cells #[.string t448, .int .i64 t449, .int .i64 t450, .string t451, .int .i64 t452, .bool t453, .int .i64 t454] 32 (0, 0))) ∧ Aside0 (Below w.heap.size w wc))
  case first =>
   have H := HC7.out
   clear HC7
   by_cases c16 : (t446 != t455) = true
   ·rw [if_pos c16] at H
    have c16b0 : (t446 != t455) = true := c16
    (try (have c16b1 : decide (t446 = t455) = false := by simpa using c16))
    (try (have c16b2 : (t446 == t455) = false := by simpa using c16))
    (try (have c16b3 : ¬ (t446 = t455) := by simpa using c16))
    clear c16
    (first | rw [c16b0] | (simp only [i64_w, i32_w]; rw [c16b0]) | skip)
    have H' := Aside0.mk H
    clear H
    go_wp2
    go_meet
    case rel => exact ⟨_, (true), q74_, H', ⟨q94_⟩, ⟨q5_⟩, ⟨q0_⟩, ⟨q34_⟩⟩
   ·rw [if_neg c16] at H
    have c16b0 : (t446 != t455) = false := by simpa using c16
    (try (have c16b1 : decide (t446 = t455) = true := by simpa using c16))
    (try (have c16b2 : (t446 == t455) = true := by simpa using c16))
    clear c16
    (first | rw [c16b0] | (simp only [i64_w, i32_w]; rw [c16b0]) | skip)
    replace H := Option.bind_eq_some_iff.mp H
    obtain ⟨t457, A170, H⟩ := H
    have A17 := Aside0.mk A170
    clear A170
    by_cases c18 : t457 = true
    ·subst c18
     replace H : (laws_FnCartNew.j0 k t437 t446 t455 (!t446) t439 t440 t441 t442 t443 t444 t445 t448 t449 t450 t451 t452 t453 t454) = some r := by rw [if_pos rfl] at H; exact H
     have H' := Aside0.mk H
     clear H
     have hnb19 := NB447_456.out
     have hnc19 := NB456_447.out
     have hcz20_0 : w13.cell? ⟨gb447, 0, none⟩ = some (.string t439) := bz_ BK447 0
     have hcz20_1 : w13.cell? ⟨gb447, 1, none⟩ = some (.int .i64 t440) := bz_ BK447 1
     have hcz20_2 : w13.cell? ⟨gb447, 2, none⟩ = some (.int .i64 t441) := bz_ BK447 2
     have hcz20_3 : w13.cell? ⟨gb447, 3, none⟩ = some (.string t442) := bz_ BK447 3
     have hcz20_4 : w13.cell? ⟨gb447, 4, none⟩ = some (.int .i64 t443) := bz_ BK447 4
     have hcz20_5 : w13.cell? ⟨gb447, 5, none⟩ = some (.bool t444) := bz_ BK447 5
     have hcz20_6 : w13.cell? ⟨gb447, 6, none⟩ = some (.int .i64 t445) := bz_ BK447 6
     have hfz20_0 := blk_frozen BK447.out 0
     have hfz20_1 := blk_frozen BK447.out 1
     have hfz20_2 := blk_frozen BK447.out 2
     have hfz20_3 := blk_frozen BK447.out 3
     have hfz20_4 := blk_frozen BK447.out 4
     have hfz20_5 := blk_frozen BK447.out 5
     have hfz20_6 := blk_frozen BK447.out 6
     have hcz21_0 : w13.cell? ⟨gb456, 0, none⟩ = some (.string (⟨#[]⟩ : ByteArray)) := bz_ BK456 0
     have hcz21_1 : w13.cell? ⟨gb456, 1, none⟩ = some (.int .i64 0) := bz_ BK456 1
     have hcz21_2 : w13.cell? ⟨gb456, 2, none⟩ = some (.int .i64 0) := bz_ BK456 2
     have hcz21_3 : w13.cell? ⟨gb456, 3, none⟩ = some (.string (⟨#[]⟩ : ByteArray)) := bz_ BK456 3
     have hcz21_4 : w13.cell? ⟨gb456, 4, none⟩ = some (.int .i64 0) := bz_ BK456 4
     have hcz21_5 : w13.cell? ⟨gb456, 5, none⟩ = some (.bool false) := bz_ BK456 5
     have hcz21_6 : w13.cell? ⟨gb456, 6, none⟩ = some (.int .i64 0) := bz_ BK456 6
     have hfz21_0 := blk_frozen BK456.out 0
     have hfz21_1 := blk_frozen BK456.out 1
     have hfz21_2 := blk_frozen BK456.out 2
     have hfz21_3 := blk_frozen BK456.out 3
     have hfz21_4 := blk_frozen BK456.out 4
     have hfz21_5 := blk_frozen BK456.out 5
     have hfz21_6 := blk_frozen BK456.out 6
     go_wp2_with (first | (go_at_call 27; (with_reducible refine (laws_sameCart.calls t439 t440 t441 t442 t443 t444 t445 t448 t449 t450 t451 t452 t453 t454 true _ A17.out).mono ?_); rintro e w22 ⟨rfl, hb⟩; have n0_ := Aside0.mk (blk_below (g := gb447) (o := .cells #[.string t439, .int .i64 t440, .int .i64 t441, .string t442, .int .i64 t443, .bool t444, .int .i64 t445] 32 (0, 0)) q5_ hb); have n1_ := Aside0.mk (blk_below (g := gb456) (o := .cells #[.string t448, .int .i64 t449, .int .i64 t450, .string t451, .int .i64 t452, .bool t453, .int .i64 t454] 32 (0, 0)) q0_ hb); have n2_ := Aside0.mk (below_step q34_ hb); clear BK447; clear BK456; clear HB; have BK447 := n0_; have BK456 := n1_; have HB := n2_; clear n0_ n1_ n2_; (try clear hb)))
     go_meet
     case rel => exact ⟨_, (!t446), q74_, H', ⟨q94_⟩, ⟨q71_⟩, ⟨q72_⟩, ⟨q34_⟩⟩
    ·replace c18 := Bool.eq_false_iff.mpr c18
     subst c18
     replace H : (laws_FnCartNew.j0 k t437 t446 t455 true t439 t440 t441 t442 t443 t444 t445 t448 t449 t450 t451 t452 t453 t454) = some r := by rw [if_neg (show ¬ (false = true) by decide)] at H; exact H
     have H' := Aside0.mk H
     clear H
     have hnb23 := NB447_456.out
     have hnc23 := NB456_447.out
     have hcz24_0 : w13.cell? ⟨gb447, 0, none⟩ = some (.string t439) := bz_ BK447 0
     have hcz24_1 : w13.cell? ⟨gb447, 1, none⟩ = some (.int .i64 t440) := bz_ BK447 1
     have hcz24_2 : w13.cell? ⟨gb447, 2, none⟩ = some (.int .i64 t441) := bz_ BK447 2
     have hcz24_3 : w13.cell? ⟨gb447, 3, none⟩ = some (.string t442) := bz_ BK447 3
     have hcz24_4 : w13.cell? ⟨gb447, 4, none⟩ = some (.int .i64 t443) := bz_ BK447 4
     have hcz24_5 : w13.cell? ⟨gb447, 5, none⟩ = some (.bool t444) := bz_ BK447 5
     have hcz24_6 : w13.cell? ⟨gb447, 6, none⟩ = some (.int .i64 t445) := bz_ BK447 6
     have hfz24_0 := blk_frozen BK447.out 0
     have hfz24_1 := blk_frozen BK447.out 1
     have hfz24_2 := blk_frozen BK447.out 2
     have hfz24_3 := blk_frozen BK447.out 3
     have hfz24_4 := blk_frozen BK447.out 4
     have hfz24_5 := blk_frozen BK447.out 5
     have hfz24_6 := blk_frozen BK447.out 6
     have hcz25_0 : w13.cell? ⟨gb456, 0, none⟩ = some (.string (⟨#[]⟩ : ByteArray)) := bz_ BK456 0
     have hcz25_1 : w13.cell? ⟨gb456, 1, none⟩ = some (.int .i64 0) := bz_ BK456 1
     have hcz25_2 : w13.cell? ⟨gb456, 2, none⟩ = some (.int .i64 0) := bz_ BK456 2
     have hcz25_3 : w13.cell? ⟨gb456, 3, none⟩ = some (.string (⟨#[]⟩ : ByteArray)) := bz_ BK456 3
     have hcz25_4 : w13.cell? ⟨gb456, 4, none⟩ = some (.int .i64 0) := bz_ BK456 4
     have hcz25_5 : w13.cell? ⟨gb456, 5, none⟩ = some (.bool false) := bz_ BK456 5
     have hcz25_6 : w13.cell? ⟨gb456, 6, none⟩ = some (.int .i64 0) := bz_ BK456 6
     have hfz25_0 := blk_frozen BK456.out 0
     have hfz25_1 := blk_frozen BK456.out 1
     have hfz25_2 := blk_frozen BK456.out 2
     have hfz25_3 := blk_frozen BK456.out 3
     have hfz25_4 := blk_frozen BK456.out 4
     have hfz25_5 := blk_frozen BK456.out 5
     have hfz25_6 := blk_frozen BK456.out 6
     go_wp2_with (first | (go_at_call 27; (with_reducible refine (laws_sameCart.calls t439 t440 t441 t442 t443 t444 t445 t448 t449 t450 t451 t452 t453 t454 false _ A17.out).mono ?_); rintro e w26 ⟨rfl, hb⟩; have n0_ := Aside0.mk (blk_below (g := gb447) (o := .cells #[.string t439, .int .i64 t440, .int .i64 t441, .string t442, .int .i64 t443, .bool t444, .int .i64 t445] 32 (0, 0)) q5_ hb); have n1_ := Aside0.mk (blk_below (g := gb456) (o := .cells #[.string t448, .int .i64 t449, .int .i64 t450, .string t451, .int .i64 t452, .bool t453, .int .i64 t454] 32 (0, 0)) q0_ hb); have n2_ := Aside0.mk (below_step q34_ hb); clear BK447; clear BK456; clear HB; have BK447 := n0_; have BK456 := n1_; have HB := n2_; clear n0_ n1_ n2_; (try clear hb)))
     go_meet
     case rel => exact ⟨_, (true), q74_, H', ⟨q94_⟩, ⟨q71_⟩, ⟨q72_⟩, ⟨q34_⟩⟩
  case rest =>
   clear HC7
   try clear c1
   try clear c2
   try clear p2
   try clear c3
   try clear p6
   try clear c9
   try clear c12
   try clear c14
   try clear c16
   try clear c16b0
   try clear c16b1
   try clear c16b2
   try clear c18
   try clear c19
   try clear c23
   try clear hcz11_0 hcz11_1 hcz11_2 hcz11_3 hcz11_4 hcz11_5 hcz11_6
   try clear hcz15_0 hcz15_1 hcz15_2 hcz15_3 hcz15_4 hcz15_5 hcz15_6
   try clear hcz20_0 hcz20_1 hcz20_2 hcz20_3 hcz20_4 hcz20_5 hcz20_6
   try clear hcz21_0 hcz21_1 hcz21_2 hcz21_3 hcz21_4 hcz21_5 hcz21_6
   try clear hcz24_0 hcz24_1 hcz24_2 hcz24_3 hcz24_4 hcz24_5 hcz24_6
   try clear hcz25_0 hcz25_1 hcz25_2 hcz25_3 hcz25_4 hcz25_5 hcz25_6
   try clear hfz11_0 hfz11_1 hfz11_2 hfz11_3 hfz11_4 hfz11_5 hfz11_6
   try clear hfz15_0 hfz15_1 hfz15_2 hfz15_3 hfz15_4 hfz15_5 hfz15_6
   try clear hfz20_0 hfz20_1 hfz20_2 hfz20_3 hfz20_4 hfz20_5 hfz20_6
   try clear hfz21_0 hfz21_1 hfz21_2 hfz21_3 hfz21_4 hfz21_5 hfz21_6
   try clear hfz24_0 hfz24_1 hfz24_2 hfz24_3 hfz24_4 hfz24_5 hfz24_6
   try clear hfz25_0 hfz25_1 hfz25_2 hfz25_3 hfz25_4 hfz25_5 hfz25_6
   obtain ⟨kq, x41_6, rfl, HA, HJ6, BK447, BK456, HB⟩ := hcut
   cases kq with
   | zero => exact absurd HA.out (by simp [laws_FnCartNew.j0])
   | succ kj6 =>
    have H := HA.out
    clear HA
    simp only [laws_FnCartNew.j0] at H
    by_cases c27 : x41_6 = true
    ·subst c27
     replace H : (if (t446 == t455) = true then ((laws_sameCart.f t439 t440 t441 t442 t443 t444 t445 t448 t449 t450 t451 t452 t453 t454).bind fun t458 => (some t458)) else (some false)) = some r := by rw [if_pos rfl] at H; exact H
     by_cases c28 : (t446 == t455) = true
     ·rw [if_pos c28] at H
      have c28b0 : (t446 == t455) = true := c28
      (try (have c28b1 : decide (t446 = t455) = true := by simpa using c28))
      (try (have c28b2 : (t446 == t455) = true := by simpa using c28))
      clear c28
      replace H := Option.bind_eq_some_iff.mp H
      obtain ⟨t458, A290, H⟩ := H
      have A29 := Aside0.mk A290
      clear A290
      obtain rfl := Option.some.inj H
      have hnb30 := NB447_456.out
      have hnc30 := NB456_447.out
      have hcz31_0 : wc.cell? ⟨gb447, 0, none⟩ = some (.string t439) := bz_ BK447 0
      have hcz31_1 : wc.cell? ⟨gb447, 1, none⟩ = some (.int .i64 t440) := bz_ BK447 1
      have hcz31_2 : wc.cell? ⟨gb447, 2, none⟩ = some (.int .i64 t441) := bz_ BK447 2
      have hcz31_3 : wc.cell? ⟨gb447, 3, none⟩ = some (.string t442) := bz_ BK447 3
      have hcz31_4 : wc.cell? ⟨gb447, 4, none⟩ = some (.int .i64 t443) := bz_ BK447 4
      have hcz31_5 : wc.cell? ⟨gb447, 5, none⟩ = some (.bool t444) := bz_ BK447 5
      have hcz31_6 : wc.cell? ⟨gb447, 6, none⟩ = some (.int .i64 t445) := bz_ BK447 6
      have hfz31_0 := blk_frozen BK447.out 0
      have hfz31_1 := blk_frozen BK447.out 1
      have hfz31_2 := blk_frozen BK447.out 2
      have hfz31_3 := blk_frozen BK447.out 3
      have hfz31_4 := blk_frozen BK447.out 4
      have hfz31_5 := blk_frozen BK447.out 5
      have hfz31_6 := blk_frozen BK447.out 6
      have hcz32_0 : wc.cell? ⟨gb456, 0, none⟩ = some (.string t448) := bz_ BK456 0
      have hcz32_1 : wc.cell? ⟨gb456, 1, none⟩ = some (.int .i64 t449) := bz_ BK456 1
      have hcz32_2 : wc.cell? ⟨gb456, 2, none⟩ = some (.int .i64 t450) := bz_ BK456 2
      have hcz32_3 : wc.cell? ⟨gb456, 3, none⟩ = some (.string t451) := bz_ BK456 3
      have hcz32_4 : wc.cell? ⟨gb456, 4, none⟩ = some (.int .i64 t452) := bz_ BK456 4
      have hcz32_5 : wc.cell? ⟨gb456, 5, none⟩ = some (.bool t453) := bz_ BK456 5
      have hcz32_6 : wc.cell? ⟨gb456, 6, none⟩ = some (.int .i64 t454) := bz_ BK456 6
      have hfz32_0 := blk_frozen BK456.out 0
      have hfz32_1 := blk_frozen BK456.out 1
      have hfz32_2 := blk_frozen BK456.out 2
      have hfz32_3 := blk_frozen BK456.out 3
      have hfz32_4 := blk_frozen BK456.out 4
      have hfz32_5 := blk_frozen BK456.out 5
      have hfz32_6 := blk_frozen BK456.out 6
      go_wp2_with (first | (go_at_call 27; (with_reducible refine (laws_sameCart.calls t439 t440 t441 t442 t443 t444 t445 t448 t449 t450 t451 t452 t453 t454 t458 _ A29.out).mono ?_); rintro e w33 ⟨rfl, hb⟩; have n0_ := Aside0.mk (blk_below (g := gb447) (o := .cells #[.string t439, .int .i64 t440, .int .i64 t441, .string t442, .int .i64 t443, .bool t444, .int .i64 t445] 32 (0, 0)) q71_ hb); have n1_ := Aside0.mk (blk_below (g := gb456) (o := .cells #[.string t448, .int .i64 t449, .int .i64 t450, .string t451, .int .i64 t452, .bool t453, .int .i64 t454] 32 (0, 0)) q72_ hb); have n2_ := Aside0.mk (below_step q34_ hb); clear BK447; clear BK456; clear HB; have BK447 := n0_; have BK456 := n1_; have HB := n2_; clear n0_ n1_ n2_; (try clear hb)))
      go_ret
      exact ⟨q55_, q34_⟩
     ·rw [if_neg c28] at H
      have c28b0 : (t446 == t455) = false := by simpa using c28
      (try (have c28b1 : decide (t446 = t455) = false := by simpa using c28))
      (try (have c28b2 : (t446 == t455) = false := by simpa using c28))
      (try (have c28b3 : ¬ (t446 = t455) := by simpa using c28))
      clear c28
      obtain rfl := Option.some.inj H
      go_wp2
      go_ret
      exact ⟨q55_, q34_⟩
    ·replace c27 := Bool.eq_false_iff.mpr c27
     subst c27
     replace H : (laws_FnCartNew.l0 kj6 t437 0 t439 t440 t441 t442 t443 t444 t445) = some r := by rw [if_neg (show ¬ (false = true) by decide)] at H; exact H
     have H' := Aside0.mk H
     clear H
     go_wp2
     go_loopg [9] kj6 (fun kq v9 w' => ∃ (x9_2 : Int), v9 = .int .i64 x9_2 ∧ Aside0 (laws_FnCartNew.l0 kq t437 x9_2 t439 t440 t441 t442 t443 t444 t445 = some r) ∧ Aside0 (kq ≤ kj6) ∧ Aside0 (w'.heap[gb447]? = some (.cells #[.string t439, .int .i64 t440, .int .i64 t441, .string t442, .int .i64 t443, .bool t444, .int .i64 t445] 32 (0, 0))) ∧ Aside0 (w'.heap[gb456]? = some (.cells #[.string t448, .int .i64 t449, .int .i64 t450, .string t451, .int .i64 t452, .bool t453, .int .i64 t454] 32 (0, 0))) ∧ Aside0 (Below w.heap.size w w'))
     case atStart => exact ⟨(0), q74_, H', ⟨Nat.le_refl _⟩, ⟨q71_⟩, ⟨q72_⟩, ⟨q34_⟩⟩
     case round =>
      clear H'
      try clear c1
      try clear c2
      try clear p2 p2
      try clear c3
      try clear p6 p6
      try clear c9
      try clear c12
      try clear c14
      try clear c16
      try clear c16b0
      try clear c16b1
      try clear c16b2
      try clear c18
      try clear c19
      try clear c23
      try clear c27
      try clear c28
      try clear c28b0
      try clear c28b1
      try clear c28b2
      try clear c29
      try clear c30
      try clear hcz11_0 hcz11_1 hcz11_2 hcz11_3 hcz11_4 hcz11_5 hcz11_6
      try clear hcz15_0 hcz15_1 hcz15_2 hcz15_3 hcz15_4 hcz15_5 hcz15_6
      try clear hcz20_0 hcz20_1 hcz20_2 hcz20_3 hcz20_4 hcz20_5 hcz20_6
      try clear hcz21_0 hcz21_1 hcz21_2 hcz21_3 hcz21_4 hcz21_5 hcz21_6
      try clear hcz24_0 hcz24_1 hcz24_2 hcz24_3 hcz24_4 hcz24_5 hcz24_6
      try clear hcz25_0 hcz25_1 hcz25_2 hcz25_3 hcz25_4 hcz25_5 hcz25_6
      try clear hcz31_0 hcz31_1 hcz31_2 hcz31_3 hcz31_4 hcz31_5 hcz31_6
      try clear hcz32_0 hcz32_1 hcz32_2 hcz32_3 hcz32_4 hcz32_5 hcz32_6
      try clear hfz11_0 hfz11_1 hfz11_2 hfz11_3 hfz11_4 hfz11_5 hfz11_6
      try clear hfz15_0 hfz15_1 hfz15_2 hfz15_3 hfz15_4 hfz15_5 hfz15_6
      try clear hfz20_0 hfz20_1 hfz20_2 hfz20_3 hfz20_4 hfz20_5 hfz20_6
      try clear hfz21_0 hfz21_1 hfz21_2 hfz21_3 hfz21_4 hfz21_5 hfz21_6
      try clear hfz24_0 hfz24_1 hfz24_2 hfz24_3 hfz24_4 hfz24_5 hfz24_6
      try clear hfz25_0 hfz25_1 hfz25_2 hfz25_3 hfz25_4 hfz25_5 hfz25_6
      try clear hfz31_0 hfz31_1 hfz31_2 hfz31_3 hfz31_4 hfz31_5 hfz31_6
      try clear hfz32_0 hfz32_1 hfz32_2 hfz32_3 hfz32_4 hfz32_5 hfz32_6
      obtain ⟨x9_2, rfl, HA, HK2, BK447, BK456, HB⟩ := hrel
      cases gk with
      | zero => exact absurd HA.out (by simp [laws_FnCartNew.l0])
      | succ k2 =>
       have H := HA.out
       clear HA
       simp only [laws_FnCartNew.l0] at H
       by_cases c34 : x9_2 < 512
       ·rw [if_pos c34] at H
        have c34b0 : decide (x9_2 < 512) = true := decide_eq_true c34
        clear c34
        replace H := Option.bind_eq_some_iff.mp H
        obtain ⟨t459, A350, H⟩ := H
        have A35 := Aside0.mk A350
        clear A350
        by_cases c36 : 0 ≤ x9_2
        ·rw [if_pos c36] at H
         have c36b0 : decide (0 ≤ x9_2) = true := decide_eq_true c36
         clear c36
         by_cases c37 : x9_2 < (t437.size : Int)
         ·rw [if_pos c37] at H
          have c37b0 : decide (x9_2 < (t437.size : Int)) = true := decide_eq_true c37
          clear c37
          by_cases c39 : t459 = (wrap64 (bt t437 x9_2))
          ·rw [if_pos c39] at H
           have c39b0 : (t459 == (wrap64 (bt t437 x9_2))) = true := beq_iff_eq.mpr c39
           have c39b1 : (t459 != (wrap64 (bt t437 x9_2))) = false := bne_eq_false_iff_eq.mpr c39
           clear c39
           have H' := Aside0.mk H
           clear H
           try go_wp2
           have n0_ := Aside0.mk (blk_drew BK447.out)
           have n1_ := Aside0.mk (blk_drew BK456.out)
           have n2_ := Aside0.mk (below_drew1 HB.out)
           clear BK447
           clear BK456
           clear HB
           have BK447 := n0_
           have BK456 := n1_
           have HB := n2_
           clear n0_ n1_ n2_
           have p38 : 0 ≤ (x9_2 : Int) := of_decide_eq_true q82_
           have q38 : x9_2 < (t437.size : Int) := of_decide_eq_true q82_
           have hx38 := bt_at t437 x9_2
           replace p38 := eq_true p38
           replace q38 := eq_true q38
           refine start_ (n := 8) (S := fun w' => w'.cell? ⟨gb447, 0, none⟩ = some (.string t439) ∧ w'.cell? ⟨gb447, 1, none⟩ = some (.int .i64 t440) ∧ w'.cell? ⟨gb447, 2, none⟩ = some (.int .i64 t441) ∧ w'.cell? ⟨gb447, 3, none⟩ = some (.string t442) ∧ w'.cell? ⟨gb447, 4, none⟩ = some (.int .i64 t443) ∧ w'.cell? ⟨gb447, 5, none⟩ = some (.bool t444) ∧ w'.cell? ⟨gb447, 6, none⟩ = some (.int .i64 t445)) (ds := []) #[false, false, false, false, false, false, false, false] (by kernel_rfl) rfl rfl ⟨(blk_cell BK447.out 0).trans rfl, (blk_cell BK447.out 1).trans rfl, (blk_cell BK447.out 2).trans rfl, (blk_cell BK447.out 3).trans rfl, (blk_cell BK447.out 4).trans rfl, (blk_cell BK447.out 5).trans rfl, (blk_cell BK447.out 6).trans rfl⟩ (fun hHeld => ?_); refine with_tabW laws_FnCartNew.tab11 laws_FnCartNew.bits11 (fun HT_ HW_ => ?_)
           generalize wr.drew = w40 at BK447 BK456 HB hHeld ⊢
           refine pure_ (i := 1) (N := some 55) (v := ?_) (a' := ?_) #[false, true, false, false, false, false, false, false] rfl rfl (any_of HT_.out (by kernel_rfl)) (fun _ _ _ h => h) (Or.inl ⟨by rfl, ?_⟩) ?_ ?_
           rotate_left
           ·intro w'
            go_simp
            with_reducible rfl
           rotate_left
           ·simp only [Act.put, List.setIfInBounds_toArray, List.set_cons_zero, List.set_cons_succ, i64_w, i32_w]
            rfl
           refine pure_ (i := 3) (N := some 57) (v := ?_) (a' := ?_) #[false, true, false, true, false, false, false, false] rfl rfl (any_of HT_.out (by kernel_rfl)) (fun _ _ _ h => h) (Or.inl ⟨by rfl, ?_⟩) ?_ ?_
           rotate_left
           ·intro w'
            go_simp
            with_reducible rfl
           rotate_left
           ·simp only [Act.put, List.setIfInBounds_toArray, List.set_cons_zero, List.set_cons_succ, i64_w, i32_w]
            rfl
           refine pure_ (i := 4) (N := some 58) (v := ?_) (a' := ?_) #[false, true, false, true, true, false, false, false] rfl rfl (any_of HT_.out (by kernel_rfl)) (fun _ _ _ h => h) (Or.inl ⟨by rfl, ?_⟩) ?_ ?_
           rotate_left
           ·intro w'
            go_simp
            with_reducible rfl
           rotate_left
           ·simp only [Act.put, List.setIfInBounds_toArray, List.set_cons_zero, List.set_cons_succ, i64_w, i32_w]
            rfl
           refine take_ (i := 0) (N := some 54) (v := ?_) (a' := ?_) #[true, true, false, true, true, false, false, false] rfl rfl (take_ofW HT_.out HW_.out (by kernel_rfl)) (fun _ _ _ h => h) (Or.inl ⟨by rfl, ?_⟩) hHeld ?_ ?_
           rotate_left
           ·rintro w' ⟨s0, s1, s2, s3, s4, s5, s6⟩
            go_simp
            with_reducible rfl
           rotate_left
           ·simp only [Act.put, List.setIfInBounds_toArray, List.set_cons_zero, List.set_cons_succ, i64_w, i32_w]
            rfl
           refine take_ (i := 5) (N := some 59) (v := ?_) (a' := ?_) #[true, true, false, true, true, true, false, false] rfl rfl (take_ofW HT_.out HW_.out (by kernel_rfl)) (fun _ _ _ h => h) (Or.inl ⟨by rfl, ?_⟩) hHeld ?_ ?_
           rotate_left
           ·rintro w' ⟨s0, s1, s2, s3, s4, s5, s6⟩
            go_simp
            with_reducible rfl
           rotate_left
           ·simp only [Act.put, List.setIfInBounds_toArray, List.set_cons_zero, List.set_cons_succ, i64_w, i32_w]
            rfl
           refine pure_ (i := 6) (N := some 60) (v := ?_) (a' := ?_) #[true, true, false, true, true, true, true, false] rfl rfl (any_of HT_.out (by kernel_rfl)) (fun _ _ _ h => h) (Or.inl ⟨by rfl, ?_⟩) ?_ ?_
           rotate_left
           ·intro w'
            go_simp
            with_reducible rfl
           rotate_left
           ·simp only [Act.put, List.setIfInBounds_toArray, List.set_cons_zero, List.set_cons_succ, i64_w, i32_w]
            rfl
           refine one_ (i := 2) (N := some 56) #[true, true, true, true, true, true, true, false] rfl rfl (one_of HT_.out (by kernel_rfl)) (by decide) (fun K hK => ?_)
           refine goes_ Try.func22 (by kernel_rfl) rfl #[.agg #[.string t439, .int .i64 t440, .int .i64 t441, .string t442, .int .i64 t443, .bool t444, .int .i64 t445], .int .i64 x9_2] (by rfl) rfl rfl q53_ ?_
           with_reducible refine (impl_CartRead.calls k2 t439 t440 t441 t442 t443 t444 t445 x9_2 t459 _ A35.out).mono ?_
           rintro e w41 ⟨rfl, hb⟩
           refine ⟨_, rfl, ?_⟩
           have n0_ := Aside0.mk (blk_below (g := gb447) (o := .cells #[.string t439, .int .i64 t440, .int .i64 t441, .string t442, .int .i64 t443, .bool t444, .int .i64 t445] 32 (0, 0)) q71_ hb)
           have n1_ := Aside0.mk (blk_below (g := gb456) (o := .cells #[.string t448, .int .i64 t449, .int .i64 t450, .string t451, .int .i64 t452, .bool t453, .int .i64 t454] 32 (0, 0)) q72_ hb)
           have n2_ := Aside0.mk (below_step q34_ hb)
           clear BK447
           clear BK456
           clear HB
           have BK447 := n0_
           have BK456 := n1_
           have HB := n2_
           clear n0_ n1_ n2_
           (try clear hb)
           (try clear hb2)
           (try clear hk)
           (try clear hi)
           refine hK.out _ _ ⟨(blk_cell BK447.out 0).trans rfl, (blk_cell BK447.out 1).trans rfl, (blk_cell BK447.out 2).trans rfl, (blk_cell BK447.out 3).trans rfl, (blk_cell BK447.out 4).trans rfl, (blk_cell BK447.out 5).trans rfl, (blk_cell BK447.out 6).trans rfl⟩ (fun hHeld => ?_)
           clear hK K
           refine norm_ (a' := ?_) ?_ ?_
           rotate_left
           ·show Act.put _ (some 56) _ = _
            simp only [Act.put, List.setIfInBounds_toArray, List.set_cons_zero, List.set_cons_succ, i64_w, i32_w]
            rfl
           refine pure_ (i := 7) (N := some 61) (v := ?_) (a' := ?_) #[true, true, true, true, true, true, true, true] rfl rfl (any_of HT_.out (by kernel_rfl)) (fun _ _ _ h => h) (Or.inl ⟨by rfl, ?_⟩) ?_ ?_
           rotate_left
           ·intro w'
            go_simp
            with_reducible rfl
           rotate_left
           ·simp only [Act.put, List.setIfInBounds_toArray, List.set_cons_zero, List.set_cons_succ, i64_w, i32_w]
            rfl
           refine done_ (done_of HT_.out (by kernel_rfl)) ?_
           try go_wp2
           go_roundg k2
           case measure => have := HJ6.out; have := HK2.out; omega
           case rel => exact ⟨(wrap64 (x9_2 + 37)), q74_, H', ⟨by have := HJ6.out; have := HK2.out; omega⟩, ⟨q71_⟩, ⟨q72_⟩, ⟨q34_⟩⟩
          ·rw [if_neg c39] at H
           have c39b0 : (t459 == (wrap64 (bt t437 x9_2))) = false := beq_eq_false_iff_ne.mpr c39
           have c39b1 : (t459 != (wrap64 (bt t437 x9_2))) = true := bne_iff_ne.mpr c39
           obtain rfl := Option.some.inj H
           try go_wp2
           have n0_ := Aside0.mk (blk_drew BK447.out)
           have n1_ := Aside0.mk (blk_drew BK456.out)
           have n2_ := Aside0.mk (below_drew1 HB.out)
           clear BK447
           clear BK456
           clear HB
           have BK447 := n0_
           have BK456 := n1_
           have HB := n2_
           clear n0_ n1_ n2_
           have p38 : 0 ≤ (x9_2 : Int) := of_decide_eq_true q82_
           have q38 : x9_2 < (t437.size : Int) := of_decide_eq_true q82_
           have hx38 := bt_at t437 x9_2
           replace p38 := eq_true p38
           replace q38 := eq_true q38
           refine start_ (n := 8) (S := fun w' => w'.cell? ⟨gb447, 0, none⟩ = some (.string t439) ∧ w'.cell? ⟨gb447, 1, none⟩ = some (.int .i64 t440) ∧ w'.cell? ⟨gb447, 2, none⟩ = some (.int .i64 t441) ∧ w'.cell? ⟨gb447, 3, none⟩ = some (.string t442) ∧ w'.cell? ⟨gb447, 4, none⟩ = some (.int .i64 t443) ∧ w'.cell? ⟨gb447, 5, none⟩ = some (.bool t444) ∧ w'.cell? ⟨gb447, 6, none⟩ = some (.int .i64 t445)) (ds := []) #[false, false, false, false, false, false, false, false] (by kernel_rfl) rfl rfl ⟨(blk_cell BK447.out 0).trans rfl, (blk_cell BK447.out 1).trans rfl, (blk_cell BK447.out 2).trans rfl, (blk_cell BK447.out 3).trans rfl, (blk_cell BK447.out 4).trans rfl, (blk_cell BK447.out 5).trans rfl, (blk_cell BK447.out 6).trans rfl⟩ (fun hHeld => ?_); refine with_tabW laws_FnCartNew.tab11 laws_FnCartNew.bits11 (fun HT_ HW_ => ?_)
           generalize wr.drew = w42 at BK447 BK456 HB hHeld ⊢
           refine pure_ (i := 1) (N := some 55) (v := ?_) (a' := ?_) #[false, true, false, false, false, false, false, false] rfl rfl (any_of HT_.out (by kernel_rfl)) (fun _ _ _ h => h) (Or.inl ⟨by rfl, ?_⟩) ?_ ?_
           rotate_left
           ·intro w'
            go_simp
            with_reducible rfl
           rotate_left
           ·simp only [Act.put, List.setIfInBounds_toArray, List.set_cons_zero, List.set_cons_succ, i64_w, i32_w]
            rfl
           refine pure_ (i := 3) (N := some 57) (v := ?_) (a' := ?_) #[false, true, false, true, false, false, false, false] rfl rfl (any_of HT_.out (by kernel_rfl)) (fun _ _ _ h => h) (Or.inl ⟨by rfl, ?_⟩) ?_ ?_
           rotate_left
           ·intro w'
            go_simp
            with_reducible rfl
           rotate_left
           ·simp only [Act.put, List.setIfInBounds_toArray, List.set_cons_zero, List.set_cons_succ, i64_w, i32_w]
            rfl
           refine pure_ (i := 4) (N := some 58) (v := ?_) (a' := ?_) #[false, true, false, true, true, false, false, false] rfl rfl (any_of HT_.out (by kernel_rfl)) (fun _ _ _ h => h) (Or.inl ⟨by rfl, ?_⟩) ?_ ?_
           rotate_left
           ·intro w'
            go_simp
            with_reducible rfl
           rotate_left
           ·simp only [Act.put, List.setIfInBounds_toArray, List.set_cons_zero, List.set_cons_succ, i64_w, i32_w]
            rfl
           refine take_ (i := 0) (N := some 54) (v := ?_) (a' := ?_) #[true, true, false, true, true, false, false, false] rfl rfl (take_ofW HT_.out HW_.out (by kernel_rfl)) (fun _ _ _ h => h) (Or.inl ⟨by rfl, ?_⟩) hHeld ?_ ?_
           rotate_left
           ·rintro w' ⟨s0, s1, s2, s3, s4, s5, s6⟩
            go_simp
            with_reducible rfl
           rotate_left
           ·simp only [Act.put, List.setIfInBounds_toArray, List.set_cons_zero, List.set_cons_succ, i64_w, i32_w]
            rfl
           refine take_ (i := 5) (N := some 59) (v := ?_) (a' := ?_) #[true, true, false, true, true, true, false, false] rfl rfl (take_ofW HT_.out HW_.out (by kernel_rfl)) (fun _ _ _ h => h) (Or.inl ⟨by rfl, ?_⟩) hHeld ?_ ?_
           rotate_left
           ·rintro w' ⟨s0, s1, s2, s3, s4, s5, s6⟩
            go_simp
            with_reducible rfl
           rotate_left
           ·simp only [Act.put, List.setIfInBounds_toArray, List.set_cons_zero, List.set_cons_succ, i64_w, i32_w]
            rfl
           refine pure_ (i := 6) (N := some 60) (v := ?_) (a' := ?_) #[true, true, false, true, true, true, true, false] rfl rfl (any_of HT_.out (by kernel_rfl)) (fun _ _ _ h => h) (Or.inl ⟨by rfl, ?_⟩) ?_ ?_
           rotate_left
           ·intro w'
            go_simp
            with_reducible rfl
           rotate_left
           ·simp only [Act.put, List.setIfInBounds_toArray, List.set_cons_zero, List.set_cons_succ, i64_w, i32_w]
            rfl
           refine one_ (i := 2) (N := some 56) #[true, true, true, true, true, true, true, false] rfl rfl (one_of HT_.out (by kernel_rfl)) (by decide) (fun K hK => ?_)
           refine goes_ Try.func22 (by kernel_rfl) rfl #[.agg #[.string t439, .int .i64 t440, .int .i64 t441, .string t442, .int .i64 t443, .bool t444, .int .i64 t445], .int .i64 x9_2] (by rfl) rfl rfl q53_ ?_
           with_reducible refine (impl_CartRead.calls k2 t439 t440 t441 t442 t443 t444 t445 x9_2 t459 _ A35.out).mono ?_
           rintro e w43 ⟨rfl, hb⟩
           refine ⟨_, rfl, ?_⟩
           have n0_ := Aside0.mk (blk_below (g := gb447) (o := .cells #[.string t439, .int .i64 t440, .int .i64 t441, .string t442, .int .i64 t443, .bool t444, .int .i64 t445] 32 (0, 0)) q71_ hb)
           have n1_ := Aside0.mk (blk_below (g := gb456) (o := .cells #[.string t448, .int .i64 t449, .int .i64 t450, .string t451, .int .i64 t452, .bool t453, .int .i64 t454] 32 (0, 0)) q72_ hb)
           have n2_ := Aside0.mk (below_step q34_ hb)
           clear BK447
           clear BK456
           clear HB
           have BK447 := n0_
           have BK456 := n1_
           have HB := n2_
           clear n0_ n1_ n2_
           (try clear hb)
           (try clear hb2)
           (try clear hk)
           (try clear hi)
           refine hK.out _ _ ⟨(blk_cell BK447.out 0).trans rfl, (blk_cell BK447.out 1).trans rfl, (blk_cell BK447.out 2).trans rfl, (blk_cell BK447.out 3).trans rfl, (blk_cell BK447.out 4).trans rfl, (blk_cell BK447.out 5).trans rfl, (blk_cell BK447.out 6).trans rfl⟩ (fun hHeld => ?_)
           clear hK K
           refine norm_ (a' := ?_) ?_ ?_
           rotate_left
           ·show Act.put _ (some 56) _ = _
            simp only [Act.put, List.setIfInBounds_toArray, List.set_cons_zero, List.set_cons_succ, i64_w, i32_w]
            rfl
           refine pure_ (i := 7) (N := some 61) (v := ?_) (a' := ?_) #[true, true, true, true, true, true, true, true] rfl rfl (any_of HT_.out (by kernel_rfl)) (fun _ _ _ h => h) (Or.inl ⟨by rfl, ?_⟩) ?_ ?_
           rotate_left
           ·intro w'
            go_simp
            with_reducible rfl
           rotate_left
           ·simp only [Act.put, List.setIfInBounds_toArray, List.set_cons_zero, List.set_cons_succ, i64_w, i32_w]
            rfl
           refine done_ (done_of HT_.out (by kernel_rfl)) ?_
           try go_wp2
           go_ret
           exact ⟨q55_, q34_⟩
         ·rw [if_neg c37] at H
          exact absurd H (by simp)
        ·rw [if_neg c36] at H
         exact absurd H (by simp)
       ·rw [if_neg c34] at H
        have c34b0 : decide (x9_2 < 512) = false := decide_eq_false c34
        clear c34
        replace H := Option.bind_eq_some_iff.mp H
        obtain ⟨t460, A440, H⟩ := H
        have A44 := Aside0.mk A440
        clear A440
        by_cases c45 : t460 = true
        ·subst c45
         replace H : ((impl_MappedBank.f k2 t439 t440 t441 t442 t443 t444 t445).bind fun t461 => (if t461 = 1 then ((impl_CartRead.f k2 t439 t440 t441 t442 t443 t444 t445 40960).bind fun t462 => (some (t462 == 255))) else (some false))) = some r := by rw [if_pos rfl] at H; exact H
         replace H := Option.bind_eq_some_iff.mp H
         obtain ⟨t461, A460, H⟩ := H
         have A46 := Aside0.mk A460
         clear A460
         by_cases c47 : t461 = 1
         ·rw [if_pos c47] at H
          have c47b0 : (t461 == 1) = true := beq_iff_eq.mpr c47
          have c47b1 : (t461 != 1) = false := bne_eq_false_iff_eq.mpr c47
          clear c47
          replace H := Option.bind_eq_some_iff.mp H
          obtain ⟨t462, A480, H⟩ := H
          have A48 := Aside0.mk A480
          clear A480
          obtain rfl := Option.some.inj H
          have hnb49 := NB447_456.out
          have hnc49 := NB456_447.out
          have hcz50_0 : wr.cell? ⟨gb447, 0, none⟩ = some (.string t439) := bz_ BK447 0
          have hcz50_1 : wr.cell? ⟨gb447, 1, none⟩ = some (.int .i64 t440) := bz_ BK447 1
          have hcz50_2 : wr.cell? ⟨gb447, 2, none⟩ = some (.int .i64 t441) := bz_ BK447 2
          have hcz50_3 : wr.cell? ⟨gb447, 3, none⟩ = some (.string t442) := bz_ BK447 3
          have hcz50_4 : wr.cell? ⟨gb447, 4, none⟩ = some (.int .i64 t443) := bz_ BK447 4
          have hcz50_5 : wr.cell? ⟨gb447, 5, none⟩ = some (.bool t444) := bz_ BK447 5
          have hcz50_6 : wr.cell? ⟨gb447, 6, none⟩ = some (.int .i64 t445) := bz_ BK447 6
          have hfz50_0 := blk_frozen BK447.out 0
          have hfz50_1 := blk_frozen BK447.out 1
          have hfz50_2 := blk_frozen BK447.out 2
          have hfz50_3 := blk_frozen BK447.out 3
          have hfz50_4 := blk_frozen BK447.out 4
          have hfz50_5 := blk_frozen BK447.out 5
          have hfz50_6 := blk_frozen BK447.out 6
          go_wp2_with (first | ((with_reducible refine gate_callee (f := 24) rfl ?_); refine goesL_ (some 63) rfl rfl Try.func24 (by kernel_rfl) rfl #[.agg #[.string t439, .int .i64 t440, .int .i64 t441, .string t442, .int .i64 t443, .bool t444, .int .i64 t445]] rfl q53_ ?_; (with_reducible refine (impl_CartOk.calls k2 t439 t440 t441 t442 t443 t444 t445 true _ A44.out).mono ?_); rintro e w51 ⟨rfl, hb⟩; refine ⟨_, rfl, ?_⟩; have n0_ := Aside0.mk (blk_below (g := gb447) (o := .cells #[.string t439, .int .i64 t440, .int .i64 t441, .string t442, .int .i64 t443, .bool t444, .int .i64 t445] 32 (0, 0)) q71_ hb); have n1_ := Aside0.mk (blk_below (g := gb456) (o := .cells #[.string t448, .int .i64 t449, .int .i64 t450, .string t451, .int .i64 t452, .bool t453, .int .i64 t454] 32 (0, 0)) q72_ hb); have n2_ := Aside0.mk (below_step q34_ hb); clear BK447; clear BK456; clear HB; have BK447 := n0_; have BK456 := n1_; have HB := n2_; clear n0_ n1_ n2_; (try clear hb); have hcz52_0 : w51.cell? ⟨gb447, 0, none⟩ = some (.string t439) := (blk_cell BK447.out 0).trans rfl; have hcz52_1 : w51.cell? ⟨gb447, 1, none⟩ = some (.int .i64 t440) := (blk_cell BK447.out 1).trans rfl; have hcz52_2 : w51.cell? ⟨gb447, 2, none⟩ = some (.int .i64 t441) := (blk_cell BK447.out 2).trans rfl; have hcz52_3 : w51.cell? ⟨gb447, 3, none⟩ = some (.string t442) := (blk_cell BK447.out 3).trans rfl; have hcz52_4 : w51.cell? ⟨gb447, 4, none⟩ = some (.int .i64 t443) := (blk_cell BK447.out 4).trans rfl; have hcz52_5 : w51.cell? ⟨gb447, 5, none⟩ = some (.bool t444) := (blk_cell BK447.out 5).trans rfl; have hcz52_6 : w51.cell? ⟨gb447, 6, none⟩ = some (.int .i64 t445) := (blk_cell BK447.out 6).trans rfl; have hfz52_0 := blk_frozen BK447.out 0; have hfz52_1 := blk_frozen BK447.out 1; have hfz52_2 := blk_frozen BK447.out 2; have hfz52_3 := blk_frozen BK447.out 3; have hfz52_4 := blk_frozen BK447.out 4; have hfz52_5 := blk_frozen BK447.out 5; have hfz52_6 := blk_frozen BK447.out 6) | (go_at_call 20; (with_reducible refine (impl_MappedBank.calls k2 t439 t440 t441 t442 t443 t444 t445 t461 _ A46.out).mono ?_); rintro e w53 ⟨rfl, hb⟩; have n0_ := Aside0.mk (blk_below (g := gb447) (o := .cells #[.string t439, .int .i64 t440, .int .i64 t441, .string t442, .int .i64 t443, .bool t444, .int .i64 t445] 32 (0, 0)) q71_ hb); have n1_ := Aside0.mk (blk_below (g := gb456) (o := .cells #[.string t448, .int .i64 t449, .int .i64 t450, .string t451, .int .i64 t452, .bool t453, .int .i64 t454] 32 (0, 0)) q72_ hb); have n2_ := Aside0.mk (below_step q34_ hb); clear BK447; clear BK456; clear HB; have BK447 := n0_; have BK456 := n1_; have HB := n2_; clear n0_ n1_ n2_; (try clear hb); have hcz54_0 : w53.cell? ⟨gb447, 0, none⟩ = some (.string t439) := (blk_cell BK447.out 0).trans rfl; have hcz54_1 : w53.cell? ⟨gb447, 1, none⟩ = some (.int .i64 t440) := (blk_cell BK447.out 1).trans rfl; have hcz54_2 : w53.cell? ⟨gb447, 2, none⟩ = some (.int .i64 t441) := (blk_cell BK447.out 2).trans rfl; have hcz54_3 : w53.cell? ⟨gb447, 3, none⟩ = some (.string t442) := (blk_cell BK447.out 3).trans rfl; have hcz54_4 : w53.cell? ⟨gb447, 4, none⟩ = some (.int .i64 t443) := (blk_cell BK447.out 4).trans rfl; have hcz54_5 : w53.cell? ⟨gb447, 5, none⟩ = some (.bool t444) := (blk_cell BK447.out 5).trans rfl; have hcz54_6 : w53.cell? ⟨gb447, 6, none⟩ = some (.int .i64 t445) := (blk_cell BK447.out 6).trans rfl; have hfz54_0 := blk_frozen BK447.out 0; have hfz54_1 := blk_frozen BK447.out 1; have hfz54_2 := blk_frozen BK447.out 2; have hfz54_3 := blk_frozen BK447.out 3; have hfz54_4 := blk_frozen BK447.out 4; have hfz54_5 := blk_frozen BK447.out 5; have hfz54_6 := blk_frozen BK447.out 6) | (go_at_call 22; (with_reducible refine (impl_CartRead.calls k2 t439 t440 t441 t442 t443 t444 t445 40960 t462 _ A48.out).mono ?_); rintro e w55 ⟨rfl, hb⟩; have n0_ := Aside0.mk (blk_below (g := gb447) (o := .cells #[.string t439, .int .i64 t440, .int .i64 t441, .string t442, .int .i64 t443, .bool t444, .int .i64 t445] 32 (0, 0)) q71_ hb); have n1_ := Aside0.mk (blk_below (g := gb456) (o := .cells #[.string t448, .int .i64 t449, .int .i64 t450, .string t451, .int .i64 t452, .bool t453, .int .i64 t454] 32 (0, 0)) q72_ hb); have n2_ := Aside0.mk (below_step q34_ hb); clear BK447; clear BK456; clear HB; have BK447 := n0_; have BK456 := n1_; have HB := n2_; clear n0_ n1_ n2_; (try clear hb)))
          go_ret
          exact ⟨q55_, q34_⟩
         ·rw [if_neg c47] at H
          have c47b0 : (t461 == 1) = false := beq_eq_false_iff_ne.mpr c47
          have c47b1 : (t461 != 1) = true := bne_iff_ne.mpr c47
          obtain rfl := Option.some.inj H
          have hnb56 := NB447_456.out
          have hnc56 := NB456_447.out
          have hcz57_0 : wr.cell? ⟨gb447, 0, none⟩ = some (.string t439) := bz_ BK447 0
          have hcz57_1 : wr.cell? ⟨gb447, 1, none⟩ = some (.int .i64 t440) := bz_ BK447 1
          have hcz57_2 : wr.cell? ⟨gb447, 2, none⟩ = some (.int .i64 t441) := bz_ BK447 2
          have hcz57_3 : wr.cell? ⟨gb447, 3, none⟩ = some (.string t442) := bz_ BK447 3
          have hcz57_4 : wr.cell? ⟨gb447, 4, none⟩ = some (.int .i64 t443) := bz_ BK447 4
          have hcz57_5 : wr.cell? ⟨gb447, 5, none⟩ = some (.bool t444) := bz_ BK447 5
          have hcz57_6 : wr.cell? ⟨gb447, 6, none⟩ = some (.int .i64 t445) := bz_ BK447 6
          have hfz57_0 := blk_frozen BK447.out 0
          have hfz57_1 := blk_frozen BK447.out 1
          have hfz57_2 := blk_frozen BK447.out 2
          have hfz57_3 := blk_frozen BK447.out 3
          have hfz57_4 := blk_frozen BK447.out 4
          have hfz57_5 := blk_frozen BK447.out 5
          have hfz57_6 := blk_frozen BK447.out 6
          go_wp2_with (first | ((with_reducible refine gate_callee (f := 24) rfl ?_); refine goesL_ (some 63) rfl rfl Try.func24 (by kernel_rfl) rfl #[.agg #[.string t439, .int .i64 t440, .int .i64 t441, .string t442, .int .i64 t443, .bool t444, .int .i64 t445]] rfl q53_ ?_; (with_reducible refine (impl_CartOk.calls k2 t439 t440 t441 t442 t443 t444 t445 true _ A44.out).mono ?_); rintro e w58 ⟨rfl, hb⟩; refine ⟨_, rfl, ?_⟩; have n0_ := Aside0.mk (blk_below (g := gb447) (o := .cells #[.string t439, .int .i64 t440, .int .i64 t441, .string t442, .int .i64 t443, .bool t444, .int .i64 t445] 32 (0, 0)) q71_ hb); have n1_ := Aside0.mk (blk_below (g := gb456) (o := .cells #[.string t448, .int .i64 t449, .int .i64 t450, .string t451, .int .i64 t452, .bool t453, .int .i64 t454] 32 (0, 0)) q72_ hb); have n2_ := Aside0.mk (below_step q34_ hb); clear BK447; clear BK456; clear HB; have BK447 := n0_; have BK456 := n1_; have HB := n2_; clear n0_ n1_ n2_; (try clear hb); have hcz59_0 : w58.cell? ⟨gb447, 0, none⟩ = some (.string t439) := (blk_cell BK447.out 0).trans rfl; have hcz59_1 : w58.cell? ⟨gb447, 1, none⟩ = some (.int .i64 t440) := (blk_cell BK447.out 1).trans rfl; have hcz59_2 : w58.cell? ⟨gb447, 2, none⟩ = some (.int .i64 t441) := (blk_cell BK447.out 2).trans rfl; have hcz59_3 : w58.cell? ⟨gb447, 3, none⟩ = some (.string t442) := (blk_cell BK447.out 3).trans rfl; have hcz59_4 : w58.cell? ⟨gb447, 4, none⟩ = some (.int .i64 t443) := (blk_cell BK447.out 4).trans rfl; have hcz59_5 : w58.cell? ⟨gb447, 5, none⟩ = some (.bool t444) := (blk_cell BK447.out 5).trans rfl; have hcz59_6 : w58.cell? ⟨gb447, 6, none⟩ = some (.int .i64 t445) := (blk_cell BK447.out 6).trans rfl; have hfz59_0 := blk_frozen BK447.out 0; have hfz59_1 := blk_frozen BK447.out 1; have hfz59_2 := blk_frozen BK447.out 2; have hfz59_3 := blk_frozen BK447.out 3; have hfz59_4 := blk_frozen BK447.out 4; have hfz59_5 := blk_frozen BK447.out 5; have hfz59_6 := blk_frozen BK447.out 6) | (go_at_call 20; (with_reducible refine (impl_MappedBank.calls k2 t439 t440 t441 t442 t443 t444 t445 t461 _ A46.out).mono ?_); rintro e w60 ⟨rfl, hb⟩; have n0_ := Aside0.mk (blk_below (g := gb447) (o := .cells #[.string t439, .int .i64 t440, .int .i64 t441, .string t442, .int .i64 t443, .bool t444, .int .i64 t445] 32 (0, 0)) q71_ hb); have n1_ := Aside0.mk (blk_below (g := gb456) (o := .cells #[.string t448, .int .i64 t449, .int .i64 t450, .string t451, .int .i64 t452, .bool t453, .int .i64 t454] 32 (0, 0)) q72_ hb); have n2_ := Aside0.mk (below_step q34_ hb); clear BK447; clear BK456; clear HB; have BK447 := n0_; have BK456 := n1_; have HB := n2_; clear n0_ n1_ n2_; (try clear hb)))
          go_ret
          exact ⟨q55_, q34_⟩
        ·replace c45 := Bool.eq_false_iff.mpr c45
         subst c45
         replace H : (some false) = some r := by rw [if_neg (show ¬ (false = true) by decide)] at H; exact H
         obtain rfl := Option.some.inj H
         have hnb61 := NB447_456.out
         have hnc61 := NB456_447.out
         have hcz62_0 : wr.cell? ⟨gb447, 0, none⟩ = some (.string t439) := bz_ BK447 0
         have hcz62_1 : wr.cell? ⟨gb447, 1, none⟩ = some (.int .i64 t440) := bz_ BK447 1
         have hcz62_2 : wr.cell? ⟨gb447, 2, none⟩ = some (.int .i64 t441) := bz_ BK447 2
         have hcz62_3 : wr.cell? ⟨gb447, 3, none⟩ = some (.string t442) := bz_ BK447 3
         have hcz62_4 : wr.cell? ⟨gb447, 4, none⟩ = some (.int .i64 t443) := bz_ BK447 4
         have hcz62_5 : wr.cell? ⟨gb447, 5, none⟩ = some (.bool t444) := bz_ BK447 5
         have hcz62_6 : wr.cell? ⟨gb447, 6, none⟩ = some (.int .i64 t445) := bz_ BK447 6
         have hfz62_0 := blk_frozen BK447.out 0
         have hfz62_1 := blk_frozen BK447.out 1
         have hfz62_2 := blk_frozen BK447.out 2
         have hfz62_3 := blk_frozen BK447.out 3
         have hfz62_4 := blk_frozen BK447.out 4
         have hfz62_5 := blk_frozen BK447.out 5
         have hfz62_6 := blk_frozen BK447.out 6
         go_wp2_with (first | ((with_reducible refine gate_callee (f := 24) rfl ?_); refine goesL_ (some 63) rfl rfl Try.func24 (by kernel_rfl) rfl #[.agg #[.string t439, .int .i64 t440, .int .i64 t441, .string t442, .int .i64 t443, .bool t444, .int .i64 t445]] rfl q53_ ?_; (with_reducible refine (impl_CartOk.calls k2 t439 t440 t441 t442 t443 t444 t445 false _ A44.out).mono ?_); rintro e w63 ⟨rfl, hb⟩; refine ⟨_, rfl, ?_⟩; have n0_ := Aside0.mk (blk_below (g := gb447) (o := .cells #[.string t439, .int .i64 t440, .int .i64 t441, .string t442, .int .i64 t443, .bool t444, .int .i64 t445] 32 (0, 0)) q71_ hb); have n1_ := Aside0.mk (blk_below (g := gb456) (o := .cells #[.string t448, .int .i64 t449, .int .i64 t450, .string t451, .int .i64 t452, .bool t453, .int .i64 t454] 32 (0, 0)) q72_ hb); have n2_ := Aside0.mk (below_step q34_ hb); clear BK447; clear BK456; clear HB; have BK447 := n0_; have BK456 := n1_; have HB := n2_; clear n0_ n1_ n2_; (try clear hb)))
         go_ret
         exact ⟨q55_, q34_⟩
/-- THE ONE PURE STATEMENT of laws_FnCartNew: yours. -/
def laws_FnCartNew.Pure : Prop := ∀ (l0 : List Int), l0.length ≤ maxLen → l0.length * 1 ≤ 140737488351232 → (∀ x ∈ l0, (Lit.int .u8 x).wf = true) → ∃ k, laws_FnCartNew.f k l0 = some true
theorem laws_FnCartNew.walk (P : laws_FnCartNew.Pure) (a0 : Option Addr) (len0 cap0 : Nat) (z0 : List Int) (w : World) (w0 : (a0 = none ∧ len0 = 0 ∧ cap0 = 0 ∧ z0 = []) ∨ ∃ x, a0 = some x ∧ len0 ≤ cap0 ∧ cap0 ≤ maxLen ∧ z0.length = cap0 ∧ (∀ i, i < z0.length → w.cell? (x.add i) = some (.int .u8 (z0.getD i 0))) ∧ ∀ n ∈ z0, (Lit.int .u8 n).wf = true) (y0 : len0 * 1 ≤ 140737488351232) :
  Calls Try.prog 9 #[.slice a0 len0 cap0] w fun e w' => e = .returned (.bool true) ∧ Below w.heap.size w w' := by
 obtain ⟨l0, rfl, hr0, hm0, hw0, hc0⟩ := ReadsInt.ofRowC w0
 obtain ⟨k, h⟩ := P l0 hm0 y0 hw0
 refine (laws_FnCartNew.calls k _ _ l0 true w (Kd.C_of_reads (d := (0 : Int)) (h1 := fun _ => rfl) hr0) hc0 h).mono ?_
 rintro e w' ⟨rfl, hd⟩
 exact ⟨rfl, hd⟩
end Go.Proofs.Ytcohcndliaaacaa.QFnCartNew
