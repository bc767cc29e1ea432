/- The machine's side of a law, written by a program of this session for this claim. -/
import Derived.Test.YtcohcndliaaacaaDoorZQq
import Derived.Test.YtcohcndliaaacaaDoorZQFnFixedx0
import Derived.Test.YtcohcndliaaacaaDoorZQFnFixedx2
import Derived.Test.YtcohcndliaaacaaDoorZQFnFixedx3
import Derived.Test.YtcohcndliaaacaaDoorZQFnFixedx9
import Derived.Test.YtcohcndliaaacaaDoorZQFnFixedx10
import Derived.Test.YtcohcndliaaacaaDoorZQFnFixedx11
namespace Go.Proofs.YtcohcndliaaacaaDoor.QFnFixed
open Go.Proofs.YtcohcndliaaacaaDoor.Qq
open Go.RowKit Go.Proofs.YtcohcndliaaacaaDoor.LibX Go.Proofs.YtcohcndliaaacaaDoor.LibE Go.Proofs.YtcohcndliaaacaaDoorW.PrintWords Go.Proofs.YtcohcndliaaacaaDoorW.PrintLast Go.Proofs.YtcohcndliaaacaaDoorW.PrintMore
attribute [local go_sem] max2_int min2_int max_two min_two max_three min_three max_four min_four   -- for this text's walks alone
set_option maxHeartbeats 8000000
set_option maxRecDepth 100000
set_option linter.unusedVariables false
set_option linter.unusedSimpArgs false
mutual
def laws_FnFixed.j0 : Nat → ByteArray → ByteArray → Int → ByteArray → Bool → ByteArray → Bool → Bool → Option (Bool)
 | 0, _, _, _, _, _, _, _, _ => none
 | k + 1, x3, x4, x5, x6, x7, x8, x9, x49 => if x49 = true then (if (x7 == x9) = true then (some (x6.toList == x8.toList)) else (some false)) else ((impl_HeaderOf.f k x6).bind fun bt468 => ((impl_Fixed.f k x6 x4 x5).bind fun bt475 => (laws_FnFixed.l0 k x3 x4 x5 x6 bt468.2.2.2.2.2 bt475.1 0 bt468.1 bt468.2.1 bt468.2.2.1 bt468.2.2.2.1 bt468.2.2.2.2.1)))
def laws_FnFixed.l0 : Nat → ByteArray → ByteArray → Int → ByteArray → Bool → ByteArray → Int → ByteArray → Int → Int → Int → Int → Option (Bool)
 | 0, _, _, _, _, _, _, _, _, _, _, _, _ => none
 | k + 1, x3, x4, x5, x6, x11, x12, x14, x475000, x475001, x475002, x475003, x475004 => if x14 < (x3.size : Int) then (if x14 < 52 then (if 0 ≤ x14 then (if x14 < (x6.size : Int) then (laws_FnFixed.j2 k x3 x4 x5 x6 x11 x12 x14 ((bt x6 x14) != (bt x3 x14)) x475000 x475001 x475002 x475003 x475004) else (none)) else (none)) else (if x14 ≥ 80 then (if 0 ≤ x14 then (if x14 < (x6.size : Int) then (laws_FnFixed.j2 k x3 x4 x5 x6 x11 x12 x14 ((bt x6 x14) != (bt x3 x14)) x475000 x475001 x475002 x475003 x475004) else (none)) else (none)) else (laws_FnFixed.j2 k x3 x4 x5 x6 x11 x12 x14 false x475000 x475001 x475002 x475003 x475004))) else (if x11 = true then (if x475001 = x5 then (if x475000.toList = x4.toList then (if (wrap64 (x475002 * 256)) = (x6.size : Int) then (if (x6.size : Int) ≥ (x3.size : Int) then (some (x12.toList == x6.toList)) else (some false)) else (some false)) else (some false)) else (some false)) else (some false))
def laws_FnFixed.j2 : Nat → ByteArray → ByteArray → Int → ByteArray → Bool → ByteArray → Int → Bool → ByteArray → Int → Int → Int → Int → Option (Bool)
 | 0, _, _, _, _, _, _, _, _, _, _, _, _, _ => none
 | k + 1, x3, x4, x5, x6, x11, x12, x14, x90, x475000, x475001, x475002, x475003, x475004 => if x90 = true then (some false) else (laws_FnFixed.l0 k x3 x4 x5 x6 x11 x12 (wrap64 (x14 + 1)) x475000 x475001 x475002 x475003 x475004)
end
def laws_FnFixed.f (k : Nat) (l0 : List Int) : Option (Bool) := (laws_big.f l0).bind fun t460 => (if t460 = true then (some true) else ((spec_DrawFixed.f k l0).bind fun bt461 => ((impl_Fixed.f k bt461.1 bt461.2.1 bt461.2.2).bind fun bt464 => ((spec_Fixed.f k bt461.1 bt461.2.1 bt461.2.2).bind fun bt466 => (if (bt464.2 != bt466.2) = true then (laws_FnFixed.j0 k bt461.1 bt461.2.1 bt461.2.2 bt464.1 bt464.2 bt466.1 bt466.2 true) else (if bt464.1.toList = bt466.1.toList then (laws_FnFixed.j0 k bt461.1 bt461.2.1 bt461.2.2 bt464.1 bt464.2 bt466.1 bt466.2 (!bt464.2)) else (laws_FnFixed.j0 k bt461.1 bt461.2.1 bt461.2.2 bt464.1 bt464.2 bt466.1 bt466.2 true)))))))
theorem laws_FnFixed.mono_l : ∀ k, (∀ y0 y1 y2 y3 y4 y5 y6 y7, LeO (laws_FnFixed.j0 k y0 y1 y2 y3 y4 y5 y6 y7) (laws_FnFixed.j0 (k + 1) y0 y1 y2 y3 y4 y5 y6 y7)) ∧ (∀ y0 y1 y2 y3 y4 y5 y6 y7 y8 y9 y10 y11, LeO (laws_FnFixed.l0 k y0 y1 y2 y3 y4 y5 y6 y7 y8 y9 y10 y11) (laws_FnFixed.l0 (k + 1) y0 y1 y2 y3 y4 y5 y6 y7 y8 y9 y10 y11)) ∧ (∀ y0 y1 y2 y3 y4 y5 y6 y7 y8 y9 y10 y11 y12, LeO (laws_FnFixed.j2 k y0 y1 y2 y3 y4 y5 y6 y7 y8 y9 y10 y11 y12) (laws_FnFixed.j2 (k + 1) y0 y1 y2 y3 y4 y5 y6 y7 y8 y9 y10 y11 y12))
 | 0 => ⟨fun _ _ _ _ _ _ _ _ r h => by simp [laws_FnFixed.j0] at h, fun _ _ _ _ _ _ _ _ _ _ _ _ r h => by simp [laws_FnFixed.l0] at h, fun _ _ _ _ _ _ _ _ _ _ _ _ _ r h => by simp [laws_FnFixed.j2] at h⟩
 | k + 1 => by
  obtain ⟨ih0, ih1, ih2⟩ := laws_FnFixed.mono_l k
  refine ⟨?_, ?_, ?_⟩
  ·intro y0 y1 y2 y3 y4 y5 y6 y7
   unfold laws_FnFixed.j0
   repeat' first
   | (with_reducible first | exact ih0 _ _ _ _ _ _ _ _ | exact ih1 _ _ _ _ _ _ _ _ _ _ _ _ | exact ih2 _ _ _ _ _ _ _ _ _ _ _ _ _ | exact impl_Fixed.mono _ _ _ _ | exact impl_HeaderOf.mono _ _ | exact spec_DrawFixed.mono _ _ | exact spec_Fixed.mono _ _ _ _ | exact LeO.refl _ | exact LeO.none _ | refine LeO.ite ?_ ?_ | refine LeO.bind ?_ (fun _ => ?_))
   | exact ih0 _ _ _ _ _ _ _ _
   | exact ih1 _ _ _ _ _ _ _ _ _ _ _ _
   | exact ih2 _ _ _ _ _ _ _ _ _ _ _ _ _
   | exact impl_Fixed.mono _ _ _ _
   | exact impl_HeaderOf.mono _ _
   | exact spec_DrawFixed.mono _ _
   | exact spec_Fixed.mono _ _ _ _
   | exact LeO.none _
   | refine LeO.ite ?_ ?_
   | refine LeO.bind ?_ (fun _ => ?_)
  ·intro y0 y1 y2 y3 y4 y5 y6 y7 y8 y9 y10 y11
   unfold laws_FnFixed.l0
   repeat' first
   | (with_reducible first | exact ih0 _ _ _ _ _ _ _ _ | exact ih1 _ _ _ _ _ _ _ _ _ _ _ _ | exact ih2 _ _ _ _ _ _ _ _ _ _ _ _ _ | exact impl_Fixed.mono _ _ _ _ | exact impl_HeaderOf.mono _ _ | exact spec_DrawFixed.mono _ _ | exact spec_Fixed.mono _ _ _ _ | exact LeO.refl _ | exact LeO.none _ | refine LeO.ite ?_ ?_ | refine LeO.bind ?_ (fun _ => ?_))
   | exact ih0 _ _ _ _ _ _ _ _
   | exact ih1 _ _ _ _ _ _ _ _ _ _ _ _
   | exact ih2 _ _ _ _ _ _ _ _ _ _ _ _ _
   | exact impl_Fixed.mono _ _ _ _
   | exact impl_HeaderOf.mono _ _
   | exact spec_DrawFixed.mono _ _
   | exact spec_Fixed.mono _ _ _ _
   | exact LeO.none _
   | refine LeO.ite ?_ ?_
   | refine LeO.bind ?_ (fun _ => ?_)
  ·intro y0 y1 y2 y3 y4 y5 y6 y7 y8 y9 y10 y11 y12
   unfold laws_FnFixed.j2
   repeat' first
   | (with_reducible first | exact ih0 _ _ _ _ _ _ _ _ | exact ih1 _ _ _ _ _ _ _ _ _ _ _ _ | exact ih2 _ _ _ _ _ _ _ _ _ _ _ _ _ | exact impl_Fixed.mono _ _ _ _ | exact impl_HeaderOf.mono _ _ | exact spec_DrawFixed.mono _ _ | exact spec_Fixed.mono _ _ _ _ | exact LeO.refl _ | exact LeO.none _ | refine LeO.ite ?_ ?_ | refine LeO.bind ?_ (fun _ => ?_))
   | exact ih0 _ _ _ _ _ _ _ _
   | exact ih1 _ _ _ _ _ _ _ _ _ _ _ _
   | exact ih2 _ _ _ _ _ _ _ _ _ _ _ _ _
   | exact impl_Fixed.mono _ _ _ _
   | exact impl_HeaderOf.mono _ _
   | exact spec_DrawFixed.mono _ _
   | exact spec_Fixed.mono _ _ _ _
   | exact LeO.none _
   | refine LeO.ite ?_ ?_
   | refine LeO.bind ?_ (fun _ => ?_)
theorem laws_FnFixed.mono : ∀ a0 k, LeO (laws_FnFixed.f k a0) (laws_FnFixed.f (k + 1) a0) := by
 intro a0 k
 obtain ⟨ih0, ih1, ih2⟩ := laws_FnFixed.mono_l k
 unfold laws_FnFixed.f
 repeat' first
   | (with_reducible first | exact ih0 _ _ _ _ _ _ _ _ | exact ih1 _ _ _ _ _ _ _ _ _ _ _ _ | exact ih2 _ _ _ _ _ _ _ _ _ _ _ _ _ | exact impl_Fixed.mono _ _ _ _ | exact impl_HeaderOf.mono _ _ | exact spec_DrawFixed.mono _ _ | exact spec_Fixed.mono _ _ _ _ | exact LeO.refl _ | exact LeO.none _ | refine LeO.ite ?_ ?_ | refine LeO.bind ?_ (fun _ => ?_))
   | exact ih0 _ _ _ _ _ _ _ _
   | exact ih1 _ _ _ _ _ _ _ _ _ _ _ _
   | exact ih2 _ _ _ _ _ _ _ _ _ _ _ _ _
   | exact impl_Fixed.mono _ _ _ _
   | exact impl_HeaderOf.mono _ _
   | exact spec_DrawFixed.mono _ _
   | exact spec_Fixed.mono _ _ _ _
   | exact LeO.none _
   | refine LeO.ite ?_ ?_
   | refine LeO.bind ?_ (fun _ => ?_)
theorem laws_FnFixed.calls (k : Nat) (A0 : Option Addr) (c0 : Nat) (l0 : List Int) (r : Bool) (w : World) (hr0 : Kd.C (Kd.int .u8) w A0 l0.length l0) (hc0 : l0.length ≤ c0) (h : laws_FnFixed.f k l0 = some r) :
  Calls Tryd.prog 7 #[.slice A0 l0.length c0] w fun e w' => e = .returned (.bool r) ∧ Below w.heap.size w w' := by
 have hu23 := Tryd.underlying23
 have HR0 := Aside0.mk hr0
 have HC0 := Aside0.mk hc0
 clear hr0 hc0
 have HB := Aside0.mk (Below.refl w.heap.size w)
 have H : ((laws_big.f l0).bind fun t460 => (if t460 = true then (some true) else ((spec_DrawFixed.f k l0).bind fun bt461 => ((impl_Fixed.f k bt461.1 bt461.2.1 bt461.2.2).bind fun bt464 => ((spec_Fixed.f k bt461.1 bt461.2.1 bt461.2.2).bind fun bt466 => (if (bt464.2 != bt466.2) = true then (laws_FnFixed.j0 k bt461.1 bt461.2.1 bt461.2.2 bt464.1 bt464.2 bt466.1 bt466.2 true) else (if bt464.1.toList = bt466.1.toList then (laws_FnFixed.j0 k bt461.1 bt461.2.1 bt461.2.2 bt464.1 bt464.2 bt466.1 bt466.2 (!bt464.2)) else (laws_FnFixed.j0 k bt461.1 bt461.2.1 bt461.2.2 bt464.1 bt464.2 bt466.1 bt466.2 true)))))))) = some r := h
 clear h
 replace H := Option.bind_eq_some_iff.mp H
 obtain ⟨t460, A20, H⟩ := H
 have A2 := Aside0.mk A20
 clear A20
 by_cases c3 : t460 = true
 ·subst c3
  replace H : (some true) = some r := by rw [if_pos rfl] at H; exact H
  obtain rfl := Option.some.inj H
  go_enter Tryd.func7, Tryd.ntmps7
  go_wp2_with (first | (go_at_call 11; (with_reducible refine (laws_big.calls _ _ l0 true _ ?side1 ?side2 A2.out).mono ?_); (case side1 => exact q97_); (case side2 => exact HC0.out); rintro e w' ⟨rfl, ⟨nd, rfl⟩⟩; (try first | exact ⟨rfl, _, World.drewN_drewN _ _ _⟩ | exact ⟨rfl, _, Eq.trans (World.drewN_drewN _ _ _) (congrArg (World.drewN _) (Nat.add_assoc _ _ _))⟩)))
  repeat (go_quiet (first | (go_at_call 11; (with_reducible refine (laws_big.calls _ _ l0 true _ ?side1 ?side2 A2.out).mono ?_); (case side1 => exact q97_); (case side2 => exact HC0.out); rintro e w' ⟨rfl, ⟨nd, rfl⟩⟩; (try first | exact ⟨rfl, _, World.drewN_drewN _ _ _⟩ | exact ⟨rfl, _, Eq.trans (World.drewN_drewN _ _ _) (congrArg (World.drewN _) (Nat.add_assoc _ _ _))⟩))); try go_wp2_with (first | (go_at_call 11; (with_reducible refine (laws_big.calls _ _ l0 true _ ?side1 ?side2 A2.out).mono ?_); (case side1 => exact q97_); (case side2 => exact HC0.out); rintro e w' ⟨rfl, ⟨nd, rfl⟩⟩; (try first | exact ⟨rfl, _, World.drewN_drewN _ _ _⟩ | exact ⟨rfl, _, Eq.trans (World.drewN_drewN _ _ _) (congrArg (World.drewN _) (Nat.add_assoc _ _ _))⟩))))
  go_ret
  exact ⟨q48_, q44_⟩
 ·replace c3 := Bool.eq_false_iff.mpr c3
  subst c3
  replace H : ((spec_DrawFixed.f k l0).bind fun bt461 => ((impl_Fixed.f k bt461.1 bt461.2.1 bt461.2.2).bind fun bt464 => ((spec_Fixed.f k bt461.1 bt461.2.1 bt461.2.2).bind fun bt466 => (if (bt464.2 != bt466.2) = true then (laws_FnFixed.j0 k bt461.1 bt461.2.1 bt461.2.2 bt464.1 bt464.2 bt466.1 bt466.2 true) else (if bt464.1.toList = bt466.1.toList then (laws_FnFixed.j0 k bt461.1 bt461.2.1 bt461.2.2 bt464.1 bt464.2 bt466.1 bt466.2 (!bt464.2)) else (laws_FnFixed.j0 k bt461.1 bt461.2.1 bt461.2.2 bt464.1 bt464.2 bt466.1 bt466.2 true)))))) = some r := by rw [if_neg (show ¬ (false = true) by decide)] at H; exact H
  replace H := Option.bind_eq_some_iff.mp H
  obtain ⟨⟨t461, t462, t463⟩, A40, H⟩ := H
  replace H : ((impl_Fixed.f k t461 t462 t463).bind fun bt464 => ((spec_Fixed.f k t461 t462 t463).bind fun bt466 => (if (bt464.2 != bt466.2) = true then (laws_FnFixed.j0 k t461 t462 t463 bt464.1 bt464.2 bt466.1 bt466.2 true) else (if bt464.1.toList = bt466.1.toList then (laws_FnFixed.j0 k t461 t462 t463 bt464.1 bt464.2 bt466.1 bt466.2 (!bt464.2)) else (laws_FnFixed.j0 k t461 t462 t463 bt464.1 bt464.2 bt466.1 bt466.2 true))))) = some r := H
  have A4 := Aside0.mk A40
  clear A40
  replace H := Option.bind_eq_some_iff.mp H
  obtain ⟨⟨t464, t465⟩, A50, H⟩ := H
  replace H : ((spec_Fixed.f k t461 t462 t463).bind fun bt466 => (if (t465 != bt466.2) = true then (laws_FnFixed.j0 k t461 t462 t463 t464 t465 bt466.1 bt466.2 true) else (if t464.toList = bt466.1.toList then (laws_FnFixed.j0 k t461 t462 t463 t464 t465 bt466.1 bt466.2 (!t465)) else (laws_FnFixed.j0 k t461 t462 t463 t464 t465 bt466.1 bt466.2 true)))) = some r := H
  have A5 := Aside0.mk A50
  clear A50
  replace H := Option.bind_eq_some_iff.mp H
  obtain ⟨⟨t466, t467⟩, A60, H⟩ := H
  replace H : (if (t465 != t467) = true then (laws_FnFixed.j0 k t461 t462 t463 t464 t465 t466 t467 true) else (if t464.toList = t466.toList then (laws_FnFixed.j0 k t461 t462 t463 t464 t465 t466 t467 (!t465)) else (laws_FnFixed.j0 k t461 t462 t463 t464 t465 t466 t467 true))) = some r := H
  have A6 := Aside0.mk A60
  clear A60
  have HC7 := Aside0.mk H
  clear H
  go_enter Tryd.func7, Tryd.ntmps7
  go_upto_region 6 with (first | (go_at_call 11; (with_reducible refine (laws_big.calls _ _ l0 false _ ?side1 ?side2 A2.out).mono ?_); (case side1 => exact q97_); (case side2 => exact HC0.out); rintro e w' ⟨rfl, ⟨nd, rfl⟩⟩; (try first | exact ⟨rfl, _, World.drewN_drewN _ _ _⟩ | exact ⟨rfl, _, Eq.trans (World.drewN_drewN _ _ _) (congrArg (World.drewN _) (Nat.add_assoc _ _ _))⟩)) | (go_at_call 26; (with_reducible refine (spec_DrawFixed.calls k _ _ l0 t461 t462 t463 _ ?side1 ?side2 A4.out).mono ?_); (case side1 => exact q97_); (case side2 => exact HC0.out); rintro e w8 ⟨rfl, hb⟩; replace HB := Aside0.mk (below_step q44_ hb); (try clear hb)) | (go_at_call 27; (with_reducible refine (impl_Fixed.calls k t461 t462 t463 t464 t465 _ A5.out).mono ?_); rintro e w9 ⟨rfl, hb⟩; replace HB := Aside0.mk (below_step q44_ hb); (try clear hb)) | (go_at_call 28; (with_reducible refine (spec_Fixed.calls k t461 t462 t463 t466 t467 _ A6.out).mono ?_); rintro e w10 ⟨rfl, hb⟩; replace HB := Aside0.mk (below_step q44_ hb); (try clear hb)))
  repeat (go_quiet (first | (go_at_call 11; (with_reducible refine (laws_big.calls _ _ l0 false _ ?side1 ?side2 A2.out).mono ?_); (case side1 => exact q97_); (case side2 => exact HC0.out); rintro e w' ⟨rfl, ⟨nd, rfl⟩⟩; (try first | exact ⟨rfl, _, World.drewN_drewN _ _ _⟩ | exact ⟨rfl, _, Eq.trans (World.drewN_drewN _ _ _) (congrArg (World.drewN _) (Nat.add_assoc _ _ _))⟩)) | (go_at_call 26; (with_reducible refine (spec_DrawFixed.calls k _ _ l0 t461 t462 t463 _ ?side1 ?side2 A4.out).mono ?_); (case side1 => exact q97_); (case side2 => exact HC0.out); rintro e w8 ⟨rfl, hb⟩; replace HB := Aside0.mk (below_step q44_ hb); (try clear hb)) | (go_at_call 27; (with_reducible refine (impl_Fixed.calls k t461 t462 t463 t464 t465 _ A5.out).mono ?_); rintro e w9 ⟨rfl, hb⟩; replace HB := Aside0.mk (below_step q44_ hb); (try clear hb)) | (go_at_call 28; (with_reducible refine (spec_Fixed.calls k t461 t462 t463 t466 t467 _ A6.out).mono ?_); rintro e w10 ⟨rfl, hb⟩; replace HB := Aside0.mk (below_step q44_ hb); (try clear hb))); go_upto_region 6 with (first | (go_at_call 11; (with_reducible refine (laws_big.calls _ _ l0 false _ ?side1 ?side2 A2.out).mono ?_); (case side1 => exact q97_); (case side2 => exact HC0.out); rintro e w' ⟨rfl, ⟨nd, rfl⟩⟩; (try first | exact ⟨rfl, _, World.drewN_drewN _ _ _⟩ | exact ⟨rfl, _, Eq.trans (World.drewN_drewN _ _ _) (congrArg (World.drewN _) (Nat.add_assoc _ _ _))⟩)) | (go_at_call 26; (with_reducible refine (spec_DrawFixed.calls k _ _ l0 t461 t462 t463 _ ?side1 ?side2 A4.out).mono ?_); (case side1 => exact q97_); (case side2 => exact HC0.out); rintro e w8 ⟨rfl, hb⟩; replace HB := Aside0.mk (below_step q44_ hb); (try clear hb)) | (go_at_call 27; (with_reducible refine (impl_Fixed.calls k t461 t462 t463 t464 t465 _ A5.out).mono ?_); rintro e w9 ⟨rfl, hb⟩; replace HB := Aside0.mk (below_step q44_ hb); (try clear hb)) | (go_at_call 28; (with_reducible refine (spec_Fixed.calls k t461 t462 t463 t466 t467 _ A6.out).mono ?_); rintro e w10 ⟨rfl, hb⟩; replace HB := Aside0.mk (below_step q44_ hb); (try clear hb))))
  (try simp only [Act.put, List.setIfInBounds_toArray, List.set_cons_zero, List.set_cons_succ])
  go_cut [49] (fun v49 wc => ∃ (kq : Nat) (x49_6 : Bool), v49 = .bool x49_6 ∧ Aside0 (laws_FnFixed.j0 kq t461 t462 t463 t464 t465 t466 t467 x49_6 = some r) ∧ Aside0 (kq ≤ k) ∧ Aside0 (Below w.heap.size w wc))
  case first =>
   have H := HC7.out
   clear HC7
   by_cases c11 : (t465 != t467) = true
   ·rw [if_pos c11] at H
    have c11b0 : (t465 != t467) = true := c11
    (try (have c11b1 : decide (t465 = t467) = false := by simpa using c11))
    (try (have c11b2 : (t465 == t467) = false := by simpa using c11))
    (try (have c11b3 : ¬ (t465 = t467) := by simpa using c11))
    clear c11
    (first | rw [c11b0] | (simp only [i64_w, i32_w]; rw [c11b0]) | skip)
    have H' := Aside0.mk H
    clear H
    go_wp2
    repeat (go_quiet (fail); try go_wp2)
    go_meet
    case rel => exact ⟨_, (true), q60_, H', ⟨q84_⟩, ⟨q44_⟩⟩
   ·rw [if_neg c11] at H
    have c11b0 : (t465 != t467) = false := by simpa using c11
    (try (have c11b1 : decide (t465 = t467) = true := by simpa using c11))
    (try (have c11b2 : (t465 == t467) = true := by simpa using c11))
    clear c11
    (first | rw [c11b0] | (simp only [i64_w, i32_w]; rw [c11b0]) | skip)
    by_cases c12 : t464.toList = t466.toList
    ·rw [if_pos c12] at H
     have c12b0 : (t464.toList == t466.toList) = true := beq_iff_eq.mpr c12
     have c12b1 : (t464.toList != t466.toList) = false := bne_eq_false_iff_eq.mpr c12
     clear c12
     have H' := Aside0.mk H
     clear H
     go_wp2
     repeat (go_quiet (fail); try go_wp2)
     go_meet
     case rel => exact ⟨_, (!t465), q60_, H', ⟨q84_⟩, ⟨q44_⟩⟩
    ·rw [if_neg c12] at H
     have c12b0 : (t464.toList == t466.toList) = false := beq_eq_false_iff_ne.mpr c12
     have c12b1 : (t464.toList != t466.toList) = true := bne_iff_ne.mpr c12
     have H' := Aside0.mk H
     clear H
     go_wp2
     repeat (go_quiet (fail); try go_wp2)
     go_meet
     case rel => exact ⟨_, (true), q60_, H', ⟨q84_⟩, ⟨q44_⟩⟩
  case rest =>
   clear HC7
   try clear c1
   try clear p2
   try clear c3
   try clear p6
   try clear c7
   try clear c11
   try clear c11b0
   try clear c11b1
   try clear c11b2
   try clear c12
   try clear c12b0
   try clear c12b1
   obtain ⟨kq, x49_6, rfl, HA, HJ6, HB⟩ := hcut
   cases kq with
   | zero => exact absurd HA.out (by simp [laws_FnFixed.j0])
   | succ kj6 =>
    have H := HA.out
    clear HA
    simp only [laws_FnFixed.j0] at H
    by_cases c13 : x49_6 = true
    ·subst c13
     replace H : (if (t465 == t467) = true then (some (t464.toList == t466.toList)) else (some false)) = some r := by rw [if_pos rfl] at H; exact H
     by_cases c14 : (t465 == t467) = true
     ·rw [if_pos c14] at H
      have c14b0 : (t465 == t467) = true := c14
      (try (have c14b1 : decide (t465 = t467) = true := by simpa using c14))
      (try (have c14b2 : (t465 == t467) = true := by simpa using c14))
      clear c14
      obtain rfl := Option.some.inj H
      go_wp2
      repeat (go_quiet (fail); try go_wp2)
      go_ret
      exact ⟨q48_, q44_⟩
     ·rw [if_neg c14] at H
      have c14b0 : (t465 == t467) = false := by simpa using c14
      (try (have c14b1 : decide (t465 = t467) = false := by simpa using c14))
      (try (have c14b2 : (t465 == t467) = false := by simpa using c14))
      (try (have c14b3 : ¬ (t465 = t467) := by simpa using c14))
      clear c14
      obtain rfl := Option.some.inj H
      go_wp2
      repeat (go_quiet (fail); try go_wp2)
      go_ret
      exact ⟨q48_, q44_⟩
    ·replace c13 := Bool.eq_false_iff.mpr c13
     subst c13
     replace H : ((impl_HeaderOf.f kj6 t464).bind fun bt468 => ((impl_Fixed.f kj6 t464 t462 t463).bind fun bt475 => (laws_FnFixed.l0 kj6 t461 t462 t463 t464 bt468.2.2.2.2.2 bt475.1 0 bt468.1 bt468.2.1 bt468.2.2.1 bt468.2.2.2.1 bt468.2.2.2.2.1))) = some r := by rw [if_neg (show ¬ (false = true) by decide)] at H; exact H
     replace H := Option.bind_eq_some_iff.mp H
     obtain ⟨⟨t468, t469, t470, t471, t472, t473⟩, A150, H⟩ := H
     replace H : ((impl_Fixed.f kj6 t464 t462 t463).bind fun bt475 => (laws_FnFixed.l0 kj6 t461 t462 t463 t464 t473 bt475.1 0 t468 t469 t470 t471 t472)) = some r := H
     have A15 := Aside0.mk A150
     clear A150
     replace H := Option.bind_eq_some_iff.mp H
     obtain ⟨⟨t475, t476⟩, A160, H⟩ := H
     replace H : (laws_FnFixed.l0 kj6 t461 t462 t463 t464 t473 t475 0 t468 t469 t470 t471 t472) = some r := H
     have A16 := Aside0.mk A160
     clear A160
     have H' := Aside0.mk H
     clear H
     go_wp2_with (first | (go_at_call 9; (with_reducible refine (impl_HeaderOf.calls kj6 t464 t468 t469 t470 t471 t472 t473 _ A15.out).mono ?_); rintro e w17 ⟨rfl, hb⟩; replace HB := Aside0.mk (below_step q44_ hb); (try clear hb)) | ((with_reducible refine gate_dst (N := 10) rfl ?_); (try (refine gate_guard (by rfl) ?_; dsimp only)); refine box_event ?hg (N := 10) ?hd (cs := #[.string (⟨#[]⟩ : ByteArray), .int .i64 0, .int .i64 0, .int .i64 0, .int .i64 0]) (t := 23) ?hr ?_; (case hd => rfl); (case hg => rfl); (case hr => exact q99_); intro gb474 hg w18 hbox hb; have n0_ := Aside0.mk (below_step q44_ hb); have n1_ := Aside0.mk (hbox); have n2_ := Aside0.mk ((q33_ : w.heap.size ≤ gb474)); have n3_ := Aside0.mk ((q33_ : w.heap.size ≤ gb474)); clear HB; have HB := n0_; have BK474 := n1_; have GW474 := n2_; have GE474 := n3_; clear n0_ n1_ n2_ n3_; clear hb hbox hg; have hcz19_0 : w18.cell? ⟨gb474, 0, none⟩ = some (.string (⟨#[]⟩ : ByteArray)) := (blk_cell BK474.out 0).trans rfl; have hcz19_1 : w18.cell? ⟨gb474, 1, none⟩ = some (.int .i64 0) := (blk_cell BK474.out 1).trans rfl; have hcz19_2 : w18.cell? ⟨gb474, 2, none⟩ = some (.int .i64 0) := (blk_cell BK474.out 2).trans rfl; have hcz19_3 : w18.cell? ⟨gb474, 3, none⟩ = some (.int .i64 0) := (blk_cell BK474.out 3).trans rfl; have hcz19_4 : w18.cell? ⟨gb474, 4, none⟩ = some (.int .i64 0) := (blk_cell BK474.out 4).trans rfl; have hfz19_0 := blk_frozen BK474.out 0; have hfz19_1 := blk_frozen BK474.out 1; have hfz19_2 := blk_frozen BK474.out 2; have hfz19_3 := blk_frozen BK474.out 3; have hfz19_4 := blk_frozen BK474.out 4) | (go_at_call 27; (with_reducible refine (impl_Fixed.calls kj6 t464 t462 t463 t475 t476 _ A16.out).mono ?_); rintro e w20 ⟨rfl, hb⟩; have n0_ := Aside0.mk (blk_below (g := gb474) (o := .cells #[.string t468, .int .i64 t469, .int .i64 t470, .int .i64 t471, .int .i64 t472] 23 (0, 0)) q2_ hb); have n1_ := Aside0.mk (below_step q37_ hb); clear BK474; clear HB; have BK474 := n0_; have HB := n1_; clear n0_ n1_; (try clear hb)))
     repeat (go_quiet (first | (go_at_call 9; (with_reducible refine (impl_HeaderOf.calls kj6 t464 t468 t469 t470 t471 t472 t473 _ A15.out).mono ?_); rintro e w17 ⟨rfl, hb⟩; replace HB := Aside0.mk (below_step q44_ hb); (try clear hb)) | ((with_reducible refine gate_dst (N := 10) rfl ?_); (try (refine gate_guard (by rfl) ?_; dsimp only)); refine box_event ?hg (N := 10) ?hd (cs := #[.string (⟨#[]⟩ : ByteArray), .int .i64 0, .int .i64 0, .int .i64 0, .int .i64 0]) (t := 23) ?hr ?_; (case hd => rfl); (case hg => rfl); (case hr => exact q99_); intro gb474 hg w18 hbox hb; have n0_ := Aside0.mk (below_step q44_ hb); have n1_ := Aside0.mk (hbox); have n2_ := Aside0.mk ((q33_ : w.heap.size ≤ gb474)); have n3_ := Aside0.mk ((q33_ : w.heap.size ≤ gb474)); clear HB; have HB := n0_; have BK474 := n1_; have GW474 := n2_; have GE474 := n3_; clear n0_ n1_ n2_ n3_; clear hb hbox hg; have hcz19_0 : w18.cell? ⟨gb474, 0, none⟩ = some (.string (⟨#[]⟩ : ByteArray)) := (blk_cell BK474.out 0).trans rfl; have hcz19_1 : w18.cell? ⟨gb474, 1, none⟩ = some (.int .i64 0) := (blk_cell BK474.out 1).trans rfl; have hcz19_2 : w18.cell? ⟨gb474, 2, none⟩ = some (.int .i64 0) := (blk_cell BK474.out 2).trans rfl; have hcz19_3 : w18.cell? ⟨gb474, 3, none⟩ = some (.int .i64 0) := (blk_cell BK474.out 3).trans rfl; have hcz19_4 : w18.cell? ⟨gb474, 4, none⟩ = some (.int .i64 0) := (blk_cell BK474.out 4).trans rfl; have hfz19_0 := blk_frozen BK474.out 0; have hfz19_1 := blk_frozen BK474.out 1; have hfz19_2 := blk_frozen BK474.out 2; have hfz19_3 := blk_frozen BK474.out 3; have hfz19_4 := blk_frozen BK474.out 4) | (go_at_call 27; (with_reducible refine (impl_Fixed.calls kj6 t464 t462 t463 t475 t476 _ A16.out).mono ?_); rintro e w20 ⟨rfl, hb⟩; have n0_ := Aside0.mk (blk_below (g := gb474) (o := .cells #[.string t468, .int .i64 t469, .int .i64 t470, .int .i64 t471, .int .i64 t472] 23 (0, 0)) q2_ hb); have n1_ := Aside0.mk (below_step q37_ hb); clear BK474; clear HB; have BK474 := n0_; have HB := n1_; clear n0_ n1_; (try clear hb))); try go_wp2_with (first | (go_at_call 9; (with_reducible refine (impl_HeaderOf.calls kj6 t464 t468 t469 t470 t471 t472 t473 _ A15.out).mono ?_); rintro e w17 ⟨rfl, hb⟩; replace HB := Aside0.mk (below_step q44_ hb); (try clear hb)) | ((with_reducible refine gate_dst (N := 10) rfl ?_); (try (refine gate_guard (by rfl) ?_; dsimp only)); refine box_event ?hg (N := 10) ?hd (cs := #[.string (⟨#[]⟩ : ByteArray), .int .i64 0, .int .i64 0, .int .i64 0, .int .i64 0]) (t := 23) ?hr ?_; (case hd => rfl); (case hg => rfl); (case hr => exact q99_); intro gb474 hg w18 hbox hb; have n0_ := Aside0.mk (below_step q44_ hb); have n1_ := Aside0.mk (hbox); have n2_ := Aside0.mk ((q33_ : w.heap.size ≤ gb474)); have n3_ := Aside0.mk ((q33_ : w.heap.size ≤ gb474)); clear HB; have HB := n0_; have BK474 := n1_; have GW474 := n2_; have GE474 := n3_; clear n0_ n1_ n2_ n3_; clear hb hbox hg; have hcz19_0 : w18.cell? ⟨gb474, 0, none⟩ = some (.string (⟨#[]⟩ : ByteArray)) := (blk_cell BK474.out 0).trans rfl; have hcz19_1 : w18.cell? ⟨gb474, 1, none⟩ = some (.int .i64 0) := (blk_cell BK474.out 1).trans rfl; have hcz19_2 : w18.cell? ⟨gb474, 2, none⟩ = some (.int .i64 0) := (blk_cell BK474.out 2).trans rfl; have hcz19_3 : w18.cell? ⟨gb474, 3, none⟩ = some (.int .i64 0) := (blk_cell BK474.out 3).trans rfl; have hcz19_4 : w18.cell? ⟨gb474, 4, none⟩ = some (.int .i64 0) := (blk_cell BK474.out 4).trans rfl; have hfz19_0 := blk_frozen BK474.out 0; have hfz19_1 := blk_frozen BK474.out 1; have hfz19_2 := blk_frozen BK474.out 2; have hfz19_3 := blk_frozen BK474.out 3; have hfz19_4 := blk_frozen BK474.out 4) | (go_at_call 27; (with_reducible refine (impl_Fixed.calls kj6 t464 t462 t463 t475 t476 _ A16.out).mono ?_); rintro e w20 ⟨rfl, hb⟩; have n0_ := Aside0.mk (blk_below (g := gb474) (o := .cells #[.string t468, .int .i64 t469, .int .i64 t470, .int .i64 t471, .int .i64 t472] 23 (0, 0)) q2_ hb); have n1_ := Aside0.mk (below_step q37_ hb); clear BK474; clear HB; have BK474 := n0_; have HB := n1_; clear n0_ n1_; (try clear hb))))
     go_loopg [14] kj6 (fun kq v14 w' => ∃ (x14_2 : Int), v14 = .int .i64 x14_2 ∧ Aside0 (laws_FnFixed.l0 kq t461 t462 t463 t464 t473 t475 x14_2 t468 t469 t470 t471 t472 = some r) ∧ Aside0 (kq ≤ kj6) ∧ Aside0 (w'.heap[gb474]? = some (.cells #[.string t468, .int .i64 t469, .int .i64 t470, .int .i64 t471, .int .i64 t472] 23 (0, 0))) ∧ Aside0 (Below w.heap.size w w'))
     case atStart => exact ⟨(0), q60_, H', ⟨Nat.le_refl _⟩, ⟨q57_⟩, ⟨q37_⟩⟩
     case round =>
      clear H'
      try clear c1
      try clear p2 p2
      try clear c3
      try clear p6 p6
      try clear c7
      try clear c11
      try clear c11b0
      try clear c11b1
      try clear c11b2
      try clear c12
      try clear c12b0
      try clear c12b1
      try clear c13
      try clear c14
      try clear c14b0
      try clear c14b1
      try clear c14b2
      try clear hcz19_0 hcz19_1 hcz19_2 hcz19_3 hcz19_4
      try clear hfz19_0 hfz19_1 hfz19_2 hfz19_3 hfz19_4
      obtain ⟨x14_2, rfl, HA, HK2, BK474, HB⟩ := hrel
      cases gk with
      | zero => exact absurd HA.out (by simp [laws_FnFixed.l0])
      | succ k2 =>
       have H := HA.out
       clear HA
       simp only [laws_FnFixed.l0] at H
       by_cases c21 : x14_2 < (t461.size : Int)
       ·rw [if_pos c21] at H
        have c21b0 : decide (x14_2 < (t461.size : Int)) = true := decide_eq_true c21
        clear c21
        have HC22 := Aside0.mk H
        clear H
        go_upto_region 13 with (fail)
        repeat (go_quiet (fail); go_upto_region 13 with (fail))
        go_cut [90] (fun v90 wc => ∃ (kq : Nat) (x90_21 : Bool), v90 = .bool x90_21 ∧ Aside0 (laws_FnFixed.j2 kq t461 t462 t463 t464 t473 t475 x14_2 x90_21 t468 t469 t470 t471 t472 = some r) ∧ Aside0 (kq ≤ k2) ∧ Aside0 (wc.heap[gb474]? = some (.cells #[.string t468, .int .i64 t469, .int .i64 t470, .int .i64 t471, .int .i64 t472] 23 (0, 0))) ∧ Aside0 (Below w.heap.size w wc))
        case first =>
         have H := HC22.out
         clear HC22
         by_cases c23 : x14_2 < 52
         ·rw [if_pos c23] at H
          have c23b0 : decide (x14_2 < 52) = true := decide_eq_true c23
          clear c23
          (first | rw [c23b0] | (simp only [i64_w, i32_w]; rw [c23b0]) | skip)
          by_cases c24 : 0 ≤ x14_2
          ·rw [if_pos c24] at H
           have c24b0 : decide (0 ≤ x14_2) = true := decide_eq_true c24
           clear c24
           by_cases c25 : x14_2 < (t464.size : Int)
           ·rw [if_pos c25] at H
            have c25b0 : decide (x14_2 < (t464.size : Int)) = true := decide_eq_true c25
            clear c25
            have H' := Aside0.mk H
            clear H
            have p26 : 0 ≤ (x14_2 : Int) := of_decide_eq_true q71_
            have q26 : x14_2 < (t464.size : Int) := of_decide_eq_true q71_
            have hx26 := bt_at t464 x14_2
            replace p26 := eq_true p26
            replace q26 := eq_true q26
            have p27 : 0 ≤ (x14_2 : Int) := of_decide_eq_true q71_
            have q27 : x14_2 < (t461.size : Int) := of_decide_eq_true q71_
            have hx27 := bt_at t461 x14_2
            replace p27 := eq_true p27
            replace q27 := eq_true q27
            go_wp2
            repeat (go_quiet (fail); try go_wp2)
            go_meet
            case rel => exact ⟨_, (((bt t464 x14_2) != (bt t461 x14_2))), q60_, H', ⟨q68_⟩, ⟨q57_⟩, ⟨q37_⟩⟩
           ·rw [if_neg c25] at H
            exact absurd H (by simp)
          ·rw [if_neg c24] at H
           exact absurd H (by simp)
         ·rw [if_neg c23] at H
          have c23b0 : decide (x14_2 < 52) = false := decide_eq_false c23
          clear c23
          (first | rw [c23b0] | (simp only [i64_w, i32_w]; rw [c23b0]) | skip)
          by_cases c28 : x14_2 ≥ 80
          ·rw [if_pos c28] at H
           have c28b0 : decide (80 ≤ x14_2) = true := decide_eq_true c28
           clear c28
           by_cases c29 : 0 ≤ x14_2
           ·rw [if_pos c29] at H
            have c29b0 : decide (0 ≤ x14_2) = true := decide_eq_true c29
            clear c29
            by_cases c30 : x14_2 < (t464.size : Int)
            ·rw [if_pos c30] at H
             have c30b0 : decide (x14_2 < (t464.size : Int)) = true := decide_eq_true c30
             clear c30
             have H' := Aside0.mk H
             clear H
             have p31 : 0 ≤ (x14_2 : Int) := of_decide_eq_true q71_
             have q31 : x14_2 < (t464.size : Int) := of_decide_eq_true q71_
             have hx31 := bt_at t464 x14_2
             replace p31 := eq_true p31
             replace q31 := eq_true q31
             have p32 : 0 ≤ (x14_2 : Int) := of_decide_eq_true q71_
             have q32 : x14_2 < (t461.size : Int) := of_decide_eq_true q71_
             have hx32 := bt_at t461 x14_2
             replace p32 := eq_true p32
             replace q32 := eq_true q32
             go_wp2
             repeat (go_quiet (fail); try go_wp2)
             go_meet
             case rel => exact ⟨_, (((bt t464 x14_2) != (bt t461 x14_2))), q60_, H', ⟨q68_⟩, ⟨q57_⟩, ⟨q37_⟩⟩
            ·rw [if_neg c30] at H
             exact absurd H (by simp)
           ·rw [if_neg c29] at H
            exact absurd H (by simp)
          ·rw [if_neg c28] at H
           have c28b0 : decide (80 ≤ x14_2) = false := decide_eq_false c28
           clear c28
           have H' := Aside0.mk H
           clear H
           go_wp2
           repeat (go_quiet (fail); try go_wp2)
           go_meet
           case rel => exact ⟨_, (false), q60_, H', ⟨q68_⟩, ⟨q57_⟩, ⟨q37_⟩⟩
        case rest =>
         clear HC22
         try clear c1
         try clear c2
         try clear p2 p2
         try clear q2
         try clear hx2
         try clear c3
         try clear p3
         try clear q3
         try clear hx3
         try clear p6 p6
         try clear c7
         try clear c11
         try clear c11b0
         try clear c11b1
         try clear c11b2
         try clear c12
         try clear c12b0
         try clear c12b1
         try clear c13
         try clear c14
         try clear c14b0
         try clear c14b1
         try clear c14b2
         try clear c21
         try clear c21b0
         try clear c23
         try clear c23b0
         try clear c24
         try clear c24b0
         try clear c25
         try clear c25b0
         try clear p26 p26
         try clear q26 q26
         try clear hx26
         try clear p27 p27
         try clear q27 q27
         try clear hx27
         try clear c28
         try clear c28b0
         try clear c29
         try clear c29b0
         try clear c30
         try clear c30b0
         try clear p31 p31
         try clear q31 q31
         try clear hx31
         try clear p32 p32
         try clear q32 q32
         try clear hx32
         try clear hcz19_0 hcz19_1 hcz19_2 hcz19_3 hcz19_4
         try clear hfz19_0 hfz19_1 hfz19_2 hfz19_3 hfz19_4
         obtain ⟨kq, x90_21, rfl, HA, HJ21, BK474, HB⟩ := hcut
         cases kq with
         | zero => exact absurd HA.out (by simp [laws_FnFixed.j2])
         | succ kj21 =>
          have H := HA.out
          clear HA
          simp only [laws_FnFixed.j2] at H
          by_cases c33 : x90_21 = true
          ·subst c33
           replace H : (some false) = some r := by rw [if_pos rfl] at H; exact H
           obtain rfl := Option.some.inj H
           go_wp2
           repeat (go_quiet (fail); try go_wp2)
           go_ret
           exact ⟨q48_, q37_⟩
          ·replace c33 := Bool.eq_false_iff.mpr c33
           subst c33
           replace H : (laws_FnFixed.l0 kj21 t461 t462 t463 t464 t473 t475 (wrap64 (x14_2 + 1)) t468 t469 t470 t471 t472) = some r := by rw [if_neg (show ¬ (false = true) by decide)] at H; exact H
           have H' := Aside0.mk H
           clear H
           go_wp2
           repeat (go_quiet (fail); try go_wp2)
           go_roundg kj21
           case measure => have := HJ6.out; have := HK2.out; have := HJ21.out; omega
           case rel => exact ⟨(wrap64 (x14_2 + 1)), q60_, H', ⟨by have := HJ6.out; have := HK2.out; have := HJ21.out; omega⟩, ⟨q57_⟩, ⟨q37_⟩⟩
       ·rw [if_neg c21] at H
        have c21b0 : decide (x14_2 < (t461.size : Int)) = false := decide_eq_false c21
        clear c21
        by_cases c34 : t473 = true
        ·subst c34
         replace H : (if t469 = t463 then (if t468.toList = t462.toList then (if (wrap64 (t470 * 256)) = (t464.size : Int) then (if (t464.size : Int) ≥ (t461.size : Int) then (some (t475.toList == t464.toList)) else (some false)) else (some false)) else (some false)) else (some false)) = some r := by rw [if_pos rfl] at H; exact H
         by_cases c35 : t469 = t463
         ·rw [if_pos c35] at H
          have c35b0 : (t469 == t463) = true := beq_iff_eq.mpr c35
          have c35b1 : (t469 != t463) = false := bne_eq_false_iff_eq.mpr c35
          clear c35
          by_cases c36 : t468.toList = t462.toList
          ·rw [if_pos c36] at H
           have c36b0 : (t468.toList == t462.toList) = true := beq_iff_eq.mpr c36
           have c36b1 : (t468.toList != t462.toList) = false := bne_eq_false_iff_eq.mpr c36
           clear c36
           by_cases c37 : (wrap64 (t470 * 256)) = (t464.size : Int)
           ·rw [if_pos c37] at H
            have c37b0 : ((wrap64 (t470 * 256)) == (t464.size : Int)) = true := beq_iff_eq.mpr c37
            have c37b1 : ((wrap64 (t470 * 256)) != (t464.size : Int)) = false := bne_eq_false_iff_eq.mpr c37
            clear c37
            by_cases c38 : (t464.size : Int) ≥ (t461.size : Int)
            ·rw [if_pos c38] at H
             have c38b0 : decide ((t461.size : Int) ≤ (t464.size : Int)) = true := decide_eq_true c38
             have c38b1 : decide (t461.size ≤ t464.size) = true := decide_eq_true (Int.ofNat_le.mp c38)
             clear c38
             obtain rfl := Option.some.inj H
             have hcz39_0 : wr.cell? ⟨gb474, 0, none⟩ = some (.string t468) := bz_ BK474 0
             have hcz39_1 : wr.cell? ⟨gb474, 1, none⟩ = some (.int .i64 t469) := bz_ BK474 1
             have hcz39_2 : wr.cell? ⟨gb474, 2, none⟩ = some (.int .i64 t470) := bz_ BK474 2
             have hcz39_3 : wr.cell? ⟨gb474, 3, none⟩ = some (.int .i64 t471) := bz_ BK474 3
             have hcz39_4 : wr.cell? ⟨gb474, 4, none⟩ = some (.int .i64 t472) := bz_ BK474 4
             have hfz39_0 := blk_frozen BK474.out 0
             have hfz39_1 := blk_frozen BK474.out 1
             have hfz39_2 := blk_frozen BK474.out 2
             have hfz39_3 := blk_frozen BK474.out 3
             have hfz39_4 := blk_frozen BK474.out 4
             go_wp2
             repeat (go_quiet (fail); try go_wp2)
             go_ret
             exact ⟨q48_, q37_⟩
            ·rw [if_neg c38] at H
             have c38b0 : decide ((t461.size : Int) ≤ (t464.size : Int)) = false := decide_eq_false c38
             have c38b1 : decide (t461.size ≤ t464.size) = false := decide_eq_false (fun h => c38 (Int.ofNat_le.mpr h))
             clear c38
             obtain rfl := Option.some.inj H
             have hcz40_0 : wr.cell? ⟨gb474, 0, none⟩ = some (.string t468) := bz_ BK474 0
             have hcz40_1 : wr.cell? ⟨gb474, 1, none⟩ = some (.int .i64 t469) := bz_ BK474 1
             have hcz40_2 : wr.cell? ⟨gb474, 2, none⟩ = some (.int .i64 t470) := bz_ BK474 2
             have hcz40_3 : wr.cell? ⟨gb474, 3, none⟩ = some (.int .i64 t471) := bz_ BK474 3
             have hcz40_4 : wr.cell? ⟨gb474, 4, none⟩ = some (.int .i64 t472) := bz_ BK474 4
             have hfz40_0 := blk_frozen BK474.out 0
             have hfz40_1 := blk_frozen BK474.out 1
             have hfz40_2 := blk_frozen BK474.out 2
             have hfz40_3 := blk_frozen BK474.out 3
             have hfz40_4 := blk_frozen BK474.out 4
             go_wp2
             repeat (go_quiet (fail); try go_wp2)
             go_ret
             exact ⟨q48_, q37_⟩
           ·rw [if_neg c37] at H
            have c37b0 : ((wrap64 (t470 * 256)) == (t464.size : Int)) = false := beq_eq_false_iff_ne.mpr c37
            have c37b1 : ((wrap64 (t470 * 256)) != (t464.size : Int)) = true := bne_iff_ne.mpr c37
            obtain rfl := Option.some.inj H
            have hcz41_0 : wr.cell? ⟨gb474, 0, none⟩ = some (.string t468) := bz_ BK474 0
            have hcz41_1 : wr.cell? ⟨gb474, 1, none⟩ = some (.int .i64 t469) := bz_ BK474 1
            have hcz41_2 : wr.cell? ⟨gb474, 2, none⟩ = some (.int .i64 t470) := bz_ BK474 2
            have hcz41_3 : wr.cell? ⟨gb474, 3, none⟩ = some (.int .i64 t471) := bz_ BK474 3
            have hcz41_4 : wr.cell? ⟨gb474, 4, none⟩ = some (.int .i64 t472) := bz_ BK474 4
            have hfz41_0 := blk_frozen BK474.out 0
            have hfz41_1 := blk_frozen BK474.out 1
            have hfz41_2 := blk_frozen BK474.out 2
            have hfz41_3 := blk_frozen BK474.out 3
            have hfz41_4 := blk_frozen BK474.out 4
            go_wp2
            repeat (go_quiet (fail); try go_wp2)
            go_ret
            exact ⟨q48_, q37_⟩
          ·rw [if_neg c36] at H
           have c36b0 : (t468.toList == t462.toList) = false := beq_eq_false_iff_ne.mpr c36
           have c36b1 : (t468.toList != t462.toList) = true := bne_iff_ne.mpr c36
           obtain rfl := Option.some.inj H
           have hcz42_0 : wr.cell? ⟨gb474, 0, none⟩ = some (.string t468) := bz_ BK474 0
           have hcz42_1 : wr.cell? ⟨gb474, 1, none⟩ = some (.int .i64 t469) := bz_ BK474 1
           have hcz42_2 : wr.cell? ⟨gb474, 2, none⟩ = some (.int .i64 t470) := bz_ BK474 2
           have hcz42_3 : wr.cell? ⟨gb474, 3, none⟩ = some (.int .i64 t471) := bz_ BK474 3
           have hcz42_4 : wr.cell? ⟨gb474, 4, none⟩ = some (.int .i64 t472) := bz_ BK474 4
           have hfz42_0 := blk_frozen BK474.out 0
           have hfz42_1 := blk_frozen BK474.out 1
           have hfz42_2 := blk_frozen BK474.out 2
           have hfz42_3 := blk_frozen BK474.out 3
           have hfz42_4 := blk_frozen BK474.out 4
           go_wp2
           repeat (go_quiet (fail); try go_wp2)
           go_ret
           exact ⟨q48_, q37_⟩
         ·rw [if_neg c35] at H
          have c35b0 : (t469 == t463) = false := beq_eq_false_iff_ne.mpr c35
          have c35b1 : (t469 != t463) = true := bne_iff_ne.mpr c35
          obtain rfl := Option.some.inj H
          have hcz43_0 : wr.cell? ⟨gb474, 0, none⟩ = some (.string t468) := bz_ BK474 0
          have hcz43_1 : wr.cell? ⟨gb474, 1, none⟩ = some (.int .i64 t469) := bz_ BK474 1
          have hcz43_2 : wr.cell? ⟨gb474, 2, none⟩ = some (.int .i64 t470) := bz_ BK474 2
          have hcz43_3 : wr.cell? ⟨gb474, 3, none⟩ = some (.int .i64 t471) := bz_ BK474 3
          have hcz43_4 : wr.cell? ⟨gb474, 4, none⟩ = some (.int .i64 t472) := bz_ BK474 4
          have hfz43_0 := blk_frozen BK474.out 0
          have hfz43_1 := blk_frozen BK474.out 1
          have hfz43_2 := blk_frozen BK474.out 2
          have hfz43_3 := blk_frozen BK474.out 3
          have hfz43_4 := blk_frozen BK474.out 4
          go_wp2
          repeat (go_quiet (fail); try go_wp2)
          go_ret
          exact ⟨q48_, q37_⟩
        ·replace c34 := Bool.eq_false_iff.mpr c34
         subst c34
         replace H : (some false) = some r := by rw [if_neg (show ¬ (false = true) by decide)] at H; exact H
         obtain rfl := Option.some.inj H
         go_wp2
         repeat (go_quiet (fail); try go_wp2)
         go_ret
         exact ⟨q48_, q37_⟩
/-- THE ONE PURE STATEMENT of laws_FnFixed: yours. -/
def laws_FnFixed.Pure : Prop := ∀ (l0 : List Int), l0.length ≤ maxLen → l0.length * 1 ≤ 140737488351232 → (∀ x ∈ l0, (Lit.int .u8 x).wf = true) → ∃ k, laws_FnFixed.f k l0 = some true
theorem laws_FnFixed.walk (P : laws_FnFixed.Pure) (a0 : Option Addr) (len0 cap0 : Nat) (z0 : List Int) (w : World) (w0 : (a0 = none ∧ len0 = 0 ∧ cap0 = 0 ∧ z0 = []) ∨ ∃ x, a0 = some x ∧ len0 ≤ cap0 ∧ cap0 ≤ maxLen ∧ z0.length = cap0 ∧ (∀ i, i < z0.length → w.cell? (x.add i) = some (.int .u8 (z0.getD i 0))) ∧ ∀ n ∈ z0, (Lit.int .u8 n).wf = true) (y0 : len0 * 1 ≤ 140737488351232) :
  Calls Tryd.prog 7 #[.slice a0 len0 cap0] w fun e w' => e = .returned (.bool true) ∧ Below w.heap.size w w' := by
 obtain ⟨l0, rfl, hr0, hm0, hw0, hc0⟩ := ReadsInt.ofRowC w0
 obtain ⟨k, h⟩ := P l0 hm0 y0 hw0
 refine (laws_FnFixed.calls k _ _ l0 true w (Kd.C_of_reads (d := (0 : Int)) (h1 := fun _ => rfl) hr0) hc0 h).mono ?_
 rintro e w' ⟨rfl, hd⟩
 exact ⟨rfl, hd⟩
end Go.Proofs.YtcohcndliaaacaaDoor.QFnFixed
