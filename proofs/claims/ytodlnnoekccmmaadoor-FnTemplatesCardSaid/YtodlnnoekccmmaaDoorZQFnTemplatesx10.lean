/- The machine's side of a law, written by a program of this session for this claim. -/
import Derived.Test.YtodlnnoekccmmaaDoorZQq
import Derived.Test.YtodlnnoekccmmaaDoorZQFnTemplatesx0
import Derived.Test.YtodlnnoekccmmaaDoorZQFnTemplatesx1
import Derived.Test.YtodlnnoekccmmaaDoorZQFnTemplatesx6
import Derived.Test.YtodlnnoekccmmaaDoorZQFnTemplatesx9
namespace Go.Proofs.YtodlnnoekccmmaaDoor.QFnTemplates
open Go.Proofs.YtodlnnoekccmmaaDoor.Qq
open Go.RowKit Go.Proofs.YtodlnnoekccmmaaDoor.LibX Go.Proofs.YtodlnnoekccmmaaDoor.LibE Go.Proofs.YtodlnnoekccmmaaDoorW.PrintWords Go.Proofs.YtodlnnoekccmmaaDoorW.PrintLast Go.Proofs.YtodlnnoekccmmaaDoorW.PrintMore
attribute [local go_sem] max2_int min2_int max_two min_two max_three min_three max_four min_four   -- for this text's walks alone
set_option maxHeartbeats 8000000
set_option maxRecDepth 100000
set_option linter.unusedVariables false
set_option linter.unusedSimpArgs false
def spec_TemplateOf.f (k : Nat) (a0 : Int) (a1 : Bool) : Option (ByteArray) := (spec_l1In.f a0 0 255).bind fun t426 => (if t426 = true then ((spec_l3Template.f k a0 a1).bind fun t427 => (some t427)) else (some (⟨#[]⟩ : ByteArray)))
theorem spec_TemplateOf.mono : ∀ a0 a1 k, LeO (spec_TemplateOf.f k a0 a1) (spec_TemplateOf.f (k + 1) a0 a1) := by
 intro a0 a1 k
 unfold spec_TemplateOf.f
 repeat' first
   | (with_reducible first | exact spec_l3Template.mono _ _ _ | exact LeO.refl _ | exact LeO.none _ | refine LeO.ite ?_ ?_ | refine LeO.bind ?_ (fun _ => ?_))
   | exact spec_l3Template.mono _ _ _
   | exact LeO.none _
   | refine LeO.ite ?_ ?_
   | refine LeO.bind ?_ (fun _ => ?_)
theorem spec_TemplateOf.calls (k : Nat) (a0 : Int) (a1 : Bool) (r : ByteArray) (w : World) (h : spec_TemplateOf.f k a0 a1 = some r) :
  Calls Tryd.prog 12 #[.int .i64 a0, .bool a1] w fun e w' => e = .returned (.string r) ∧ Below w.heap.size w w' := by
 have HB := Aside0.mk (Below.refl w.heap.size w)
 have H : ((spec_l1In.f a0 0 255).bind fun t426 => (if t426 = true then ((spec_l3Template.f k a0 a1).bind fun t427 => (some t427)) else (some (⟨#[]⟩ : ByteArray)))) = some r := h
 clear h
 replace H := Option.bind_eq_some_iff.mp H
 obtain ⟨t426, A30, H⟩ := H
 have A3 := Aside0.mk A30
 clear A30
 by_cases c4 : t426 = true
 ·subst c4
  replace H : ((spec_l3Template.f k a0 a1).bind fun t427 => (some t427)) = some r := by rw [if_pos rfl] at H; exact H
  replace H := Option.bind_eq_some_iff.mp H
  obtain ⟨t427, A50, H⟩ := H
  have A5 := Aside0.mk A50
  clear A50
  obtain rfl := Option.some.inj H
  go_enter Tryd.func12, Tryd.ntmps12
  go_wp2_with (first | ((with_reducible refine gate_callee (f := 20) rfl ?_); refine goesL_ (some 6) rfl rfl Tryd.func20 (by kernel_rfl) rfl #[.int .i64 a0, .int .i64 0, .int .i64 255] rfl q16_ ?_; (with_reducible refine (spec_l1In.calls a0 0 255 true _ A3.out).mono ?_); rintro e w' ⟨rfl, ⟨nd, rfl⟩⟩; refine ⟨_, rfl, ?_⟩) | ((with_reducible refine gate_callee (f := 29) rfl ?_); refine goesL_ (some 10) rfl rfl Tryd.func29 (by kernel_rfl) rfl #[.int .i64 a0, .bool a1] rfl q16_ ?_; (with_reducible refine (spec_l3Template.calls k a0 a1 t427 _ A5.out).mono ?_); rintro e w6 ⟨rfl, hb⟩; refine ⟨_, rfl, ?_⟩; replace HB := Aside0.mk (below_step q17_ hb); (try clear hb)))
  go_ret
  exact ⟨q19_, q17_⟩
 ·replace c4 := Bool.eq_false_iff.mpr c4
  subst c4
  replace H : (some (⟨#[]⟩ : ByteArray)) = some r := by rw [if_neg (show ¬ (false = true) by decide)] at H; exact H
  obtain rfl := Option.some.inj H
  go_enter Tryd.func12, Tryd.ntmps12
  go_wp2_with (first | ((with_reducible refine gate_callee (f := 20) rfl ?_); refine goesL_ (some 6) rfl rfl Tryd.func20 (by kernel_rfl) rfl #[.int .i64 a0, .int .i64 0, .int .i64 255] rfl q16_ ?_; (with_reducible refine (spec_l1In.calls a0 0 255 false _ A3.out).mono ?_); rintro e w' ⟨rfl, ⟨nd, rfl⟩⟩; refine ⟨_, rfl, ?_⟩))
  go_ret
  exact ⟨q19_, q17_⟩
mutual
def laws_FnTemplates.j0 : Nat → Int → Bool → ByteArray → Bool → Option (Bool)
 | 0, _, _, _, _ => none
 | k + 1, x3, x4, x5, x25 => if x25 = true then ((spec_TemplateOf.f k x3 x4).bind fun t433 => (some (x5.toList == t433.toList))) else (laws_FnTemplates.l0 k x3 x4 x5 0)
def laws_FnTemplates.l0 : Nat → Int → Bool → ByteArray → Int → Option (Bool)
 | 0, _, _, _, _ => none
 | k + 1, x3, x4, x5, x6 => if x6 < 256 then ((impl_TemplateOf.f k x6 x4).bind fun t434 => (if t434.toList = x5.toList then (if x6 = x3 then ((impl_TemplateOf.f k x6 (!x4)).bind fun t435 => (laws_FnTemplates.j2 k x3 x4 x5 x6 (t435.toList == x5.toList))) else (laws_FnTemplates.j2 k x3 x4 x5 x6 true)) else ((impl_TemplateOf.f k x6 (!x4)).bind fun t436 => (laws_FnTemplates.j2 k x3 x4 x5 x6 (t436.toList == x5.toList))))) else (some true)
def laws_FnTemplates.j2 : Nat → Int → Bool → ByteArray → Int → Bool → Option (Bool)
 | 0, _, _, _, _, _ => none
 | k + 1, x3, x4, x5, x6, x52 => if x52 = true then (some false) else (laws_FnTemplates.l0 k x3 x4 x5 (wrap64 (x6 + 1)))
end
def laws_FnTemplates.f (k : Nat) (l0 : List Int) : Option (Bool) := (laws_big.f l0).bind fun t428 => (if t428 = true then (some true) else ((spec_DrawTemplateOf.f k l0).bind fun bt429 => ((impl_TemplateOf.f k bt429.1 bt429.2).bind fun t431 => ((spec_TemplateOf.f k bt429.1 bt429.2).bind fun t432 => (if t431.toList = t432.toList then (laws_FnTemplates.j0 k bt429.1 bt429.2 t431 (t431.toList == ([] : List UInt8))) else (laws_FnTemplates.j0 k bt429.1 bt429.2 t431 true))))))
theorem laws_FnTemplates.mono_l : ∀ k, (∀ y0 y1 y2 y3, LeO (laws_FnTemplates.j0 k y0 y1 y2 y3) (laws_FnTemplates.j0 (k + 1) y0 y1 y2 y3)) ∧ (∀ y0 y1 y2 y3, LeO (laws_FnTemplates.l0 k y0 y1 y2 y3) (laws_FnTemplates.l0 (k + 1) y0 y1 y2 y3)) ∧ (∀ y0 y1 y2 y3 y4, LeO (laws_FnTemplates.j2 k y0 y1 y2 y3 y4) (laws_FnTemplates.j2 (k + 1) y0 y1 y2 y3 y4))
 | 0 => ⟨fun _ _ _ _ r h => by simp [laws_FnTemplates.j0] at h, fun _ _ _ _ r h => by simp [laws_FnTemplates.l0] at h, fun _ _ _ _ _ r h => by simp [laws_FnTemplates.j2] at h⟩
 | k + 1 => by
  obtain ⟨ih0, ih1, ih2⟩ := laws_FnTemplates.mono_l k
  refine ⟨?_, ?_, ?_⟩
  ·intro y0 y1 y2 y3
   unfold laws_FnTemplates.j0
   repeat' first
   | (with_reducible first | exact ih0 _ _ _ _ | exact ih1 _ _ _ _ | exact ih2 _ _ _ _ _ | exact impl_TemplateOf.mono _ _ _ | exact spec_DrawTemplateOf.mono _ _ | exact spec_TemplateOf.mono _ _ _ | exact LeO.refl _ | exact LeO.none _ | refine LeO.ite ?_ ?_ | refine LeO.bind ?_ (fun _ => ?_))
   | exact ih0 _ _ _ _
   | exact ih1 _ _ _ _
   | exact ih2 _ _ _ _ _
   | exact impl_TemplateOf.mono _ _ _
   | exact spec_DrawTemplateOf.mono _ _
   | exact spec_TemplateOf.mono _ _ _
   | exact LeO.none _
   | refine LeO.ite ?_ ?_
   | refine LeO.bind ?_ (fun _ => ?_)
  ·intro y0 y1 y2 y3
   unfold laws_FnTemplates.l0
   repeat' first
   | (with_reducible first | exact ih0 _ _ _ _ | exact ih1 _ _ _ _ | exact ih2 _ _ _ _ _ | exact impl_TemplateOf.mono _ _ _ | exact spec_DrawTemplateOf.mono _ _ | exact spec_TemplateOf.mono _ _ _ | exact LeO.refl _ | exact LeO.none _ | refine LeO.ite ?_ ?_ | refine LeO.bind ?_ (fun _ => ?_))
   | exact ih0 _ _ _ _
   | exact ih1 _ _ _ _
   | exact ih2 _ _ _ _ _
   | exact impl_TemplateOf.mono _ _ _
   | exact spec_DrawTemplateOf.mono _ _
   | exact spec_TemplateOf.mono _ _ _
   | exact LeO.none _
   | refine LeO.ite ?_ ?_
   | refine LeO.bind ?_ (fun _ => ?_)
  ·intro y0 y1 y2 y3 y4
   unfold laws_FnTemplates.j2
   repeat' first
   | (with_reducible first | exact ih0 _ _ _ _ | exact ih1 _ _ _ _ | exact ih2 _ _ _ _ _ | exact impl_TemplateOf.mono _ _ _ | exact spec_DrawTemplateOf.mono _ _ | exact spec_TemplateOf.mono _ _ _ | exact LeO.refl _ | exact LeO.none _ | refine LeO.ite ?_ ?_ | refine LeO.bind ?_ (fun _ => ?_))
   | exact ih0 _ _ _ _
   | exact ih1 _ _ _ _
   | exact ih2 _ _ _ _ _
   | exact impl_TemplateOf.mono _ _ _
   | exact spec_DrawTemplateOf.mono _ _
   | exact spec_TemplateOf.mono _ _ _
   | exact LeO.none _
   | refine LeO.ite ?_ ?_
   | refine LeO.bind ?_ (fun _ => ?_)
theorem laws_FnTemplates.mono : ∀ a0 k, LeO (laws_FnTemplates.f k a0) (laws_FnTemplates.f (k + 1) a0) := by
 intro a0 k
 obtain ⟨ih0, ih1, ih2⟩ := laws_FnTemplates.mono_l k
 unfold laws_FnTemplates.f
 repeat' first
   | (with_reducible first | exact ih0 _ _ _ _ | exact ih1 _ _ _ _ | exact ih2 _ _ _ _ _ | exact impl_TemplateOf.mono _ _ _ | exact spec_DrawTemplateOf.mono _ _ | exact spec_TemplateOf.mono _ _ _ | exact LeO.refl _ | exact LeO.none _ | refine LeO.ite ?_ ?_ | refine LeO.bind ?_ (fun _ => ?_))
   | exact ih0 _ _ _ _
   | exact ih1 _ _ _ _
   | exact ih2 _ _ _ _ _
   | exact impl_TemplateOf.mono _ _ _
   | exact spec_DrawTemplateOf.mono _ _
   | exact spec_TemplateOf.mono _ _ _
   | exact LeO.none _
   | refine LeO.ite ?_ ?_
   | refine LeO.bind ?_ (fun _ => ?_)
theorem laws_FnTemplates.calls (k : Nat) (A0 : Option Addr) (c0 : Nat) (l0 : List Int) (r : Bool) (w : World) (hr0 : Kd.C (Kd.int .u8) w A0 l0.length l0) (hc0 : l0.length ≤ c0) (h : laws_FnTemplates.f k l0 = some r) (hG : Go.Proofs.YtodlnnoekccmmaaDoor.LibW.GL w := by first | exact hG | exact hG.below q0_ | exact hG.drewN _) :
  Calls Tryd.prog 4 #[.slice A0 l0.length c0] w fun e w' => e = .returned (.bool r) ∧ Below w.heap.size w w' := by
 have HR0 := Aside0.mk hr0
 have HC0 := Aside0.mk hc0
 clear hr0 hc0
 have HB := Aside0.mk (Below.refl w.heap.size w)
 have H : ((laws_big.f l0).bind fun t428 => (if t428 = true then (some true) else ((spec_DrawTemplateOf.f k l0).bind fun bt429 => ((impl_TemplateOf.f k bt429.1 bt429.2).bind fun t431 => ((spec_TemplateOf.f k bt429.1 bt429.2).bind fun t432 => (if t431.toList = t432.toList then (laws_FnTemplates.j0 k bt429.1 bt429.2 t431 (t431.toList == ([] : List UInt8))) else (laws_FnTemplates.j0 k bt429.1 bt429.2 t431 true))))))) = some r := h
 clear h
 replace H := Option.bind_eq_some_iff.mp H
 obtain ⟨t428, A20, H⟩ := H
 have A2 := Aside0.mk A20
 clear A20
 by_cases c3 : t428 = true
 ·subst c3
  replace H : (some true) = some r := by rw [if_pos rfl] at H; exact H
  obtain rfl := Option.some.inj H
  go_enter Tryd.func4, Tryd.ntmps4
  go_wp2_with (first | ((with_reducible refine gate_callee (f := 5) rfl ?_); refine goesL_ (some 8) rfl rfl Tryd.func5 (by kernel_rfl) rfl #[.slice A0 l0.length c0] rfl q16_ ?_; (with_reducible refine (laws_big.calls _ _ l0 true _ ?side1 ?side2 A2.out).mono ?_); (case side1 => exact q57_); (case side2 => exact HC0.out); rintro e w' ⟨rfl, ⟨nd, rfl⟩⟩; refine ⟨_, rfl, ?_⟩))
  go_ret
  exact ⟨q19_, q17_⟩
 ·replace c3 := Bool.eq_false_iff.mpr c3
  subst c3
  replace H : ((spec_DrawTemplateOf.f k l0).bind fun bt429 => ((impl_TemplateOf.f k bt429.1 bt429.2).bind fun t431 => ((spec_TemplateOf.f k bt429.1 bt429.2).bind fun t432 => (if t431.toList = t432.toList then (laws_FnTemplates.j0 k bt429.1 bt429.2 t431 (t431.toList == ([] : List UInt8))) else (laws_FnTemplates.j0 k bt429.1 bt429.2 t431 true))))) = some r := by rw [if_neg (show ¬ (false = true) by decide)] at H; exact H
  replace H := Option.bind_eq_some_iff.mp H
  obtain ⟨⟨t429, t430⟩, A40, H⟩ := H
  replace H : ((impl_TemplateOf.f k t429 t430).bind fun t431 => ((spec_TemplateOf.f k t429 t430).bind fun t432 => (if t431.toList = t432.toList then (laws_FnTemplates.j0 k t429 t430 t431 (t431.toList == ([] : List UInt8))) else (laws_FnTemplates.j0 k t429 t430 t431 true)))) = some r := H
  have A4 := Aside0.mk A40
  clear A40
  replace H := Option.bind_eq_some_iff.mp H
  obtain ⟨t431, A50, H⟩ := H
  have A5 := Aside0.mk A50
  clear A50
  have HC6 := Aside0.mk H
  clear H
  go_enter Tryd.func4, Tryd.ntmps4
  go_upto_region 5 with (first | ((with_reducible refine gate_callee (f := 5) rfl ?_); refine goesL_ (some 8) rfl rfl Tryd.func5 (by kernel_rfl) rfl #[.slice A0 l0.length c0] rfl q16_ ?_; (with_reducible refine (laws_big.calls _ _ l0 false _ ?side1 ?side2 A2.out).mono ?_); (case side1 => exact q57_); (case side2 => exact HC0.out); rintro e w' ⟨rfl, ⟨nd, rfl⟩⟩; refine ⟨_, rfl, ?_⟩) | ((with_reducible refine gate_callee (f := 10) rfl ?_); refine goesL_ (some 11) rfl rfl Tryd.func10 (by kernel_rfl) rfl #[.slice A0 l0.length c0] rfl q16_ ?_; (with_reducible refine (spec_DrawTemplateOf.calls k _ _ l0 t429 t430 _ ?side1 ?side2 A4.out).mono ?_); (case side1 => exact q57_); (case side2 => exact HC0.out); rintro e w7 ⟨rfl, hb⟩; refine ⟨_, rfl, ?_⟩; replace HB := Aside0.mk (below_step q17_ hb); (try clear hb)) | ((with_reducible refine gate_callee (f := 11) rfl ?_); refine goesL_ (some 16) rfl rfl Tryd.func11 (by kernel_rfl) rfl #[.int .i64 t429, .bool t430] rfl q16_ ?_; (with_reducible refine (impl_TemplateOf.calls k t429 t430 t431 _ A5.out).mono ?_); rintro e w8 ⟨rfl, hb⟩; refine ⟨_, rfl, ?_⟩; replace HB := Aside0.mk (below_step q17_ hb); (try clear hb)))
  (try simp only [Act.put, List.setIfInBounds_toArray, List.set_cons_zero, List.set_cons_succ])
  go_cut [25] (fun v25 wc => ∃ (kq : Nat) (x25_5 : Bool), v25 = .bool x25_5 ∧ Aside0 (laws_FnTemplates.j0 kq t429 t430 t431 x25_5 = some r) ∧ Aside0 (kq ≤ k) ∧ Aside0 (Below w.heap.size w wc))
  case first =>
   have H := HC6.out
   clear HC6
   replace H := Option.bind_eq_some_iff.mp H
   obtain ⟨t432, A90, H⟩ := H
   have A9 := Aside0.mk A90
   clear A90
   by_cases c10 : t431.toList = t432.toList
   ·rw [if_pos c10] at H
    have c10b0 : (t431.toList == t432.toList) = true := beq_iff_eq.mpr c10
    have c10b1 : (t431.toList != t432.toList) = false := bne_eq_false_iff_eq.mpr c10
    clear c10
    (first | rw [c10b0] | (simp only [i64_w, i32_w]; rw [c10b0]) | skip)
    have H' := Aside0.mk H
    clear H
    go_wp2_with (first | ((with_reducible refine gate_callee (f := 12) rfl ?_); refine goesL_ (some 20) rfl rfl Tryd.func12 (by kernel_rfl) rfl #[.int .i64 t429, .bool t430] rfl q16_ ?_; (with_reducible refine (spec_TemplateOf.calls k t429 t430 t432 _ A9.out).mono ?_); rintro e w11 ⟨rfl, hb⟩; refine ⟨_, rfl, ?_⟩; replace HB := Aside0.mk (below_step q17_ hb); (try clear hb)))
    go_meet
    case rel => exact ⟨_, ((t431.toList == ([] : List UInt8))), q21_, H', ⟨q47_⟩, ⟨q17_⟩⟩
   ·rw [if_neg c10] at H
    have c10b0 : (t431.toList == t432.toList) = false := beq_eq_false_iff_ne.mpr c10
    have c10b1 : (t431.toList != t432.toList) = true := bne_iff_ne.mpr c10
    (first | rw [c10b0] | (simp only [i64_w, i32_w]; rw [c10b0]) | skip)
    have H' := Aside0.mk H
    clear H
    go_wp2_with (first | ((with_reducible refine gate_callee (f := 12) rfl ?_); refine goesL_ (some 20) rfl rfl Tryd.func12 (by kernel_rfl) rfl #[.int .i64 t429, .bool t430] rfl q16_ ?_; (with_reducible refine (spec_TemplateOf.calls k t429 t430 t432 _ A9.out).mono ?_); rintro e w12 ⟨rfl, hb⟩; refine ⟨_, rfl, ?_⟩; replace HB := Aside0.mk (below_step q17_ hb); (try clear hb)))
    go_meet
    case rel => exact ⟨_, (true), q21_, H', ⟨q47_⟩, ⟨q17_⟩⟩
  case rest =>
   clear HC6
   try clear c1
   try clear p2
   try clear c3
   try clear c4
   try clear c5
   try clear p6
   try clear c10
   try clear c10b0
   try clear c10b1
   try clear c11
   try clear c12
   obtain ⟨kq, x25_5, rfl, HA, HJ5, HB⟩ := hcut
   cases kq with
   | zero => exact absurd HA.out (by simp [laws_FnTemplates.j0])
   | succ kj5 =>
    have H := HA.out
    clear HA
    simp only [laws_FnTemplates.j0] at H
    by_cases c13 : x25_5 = true
    ·subst c13
     replace H : ((spec_TemplateOf.f kj5 t429 t430).bind fun t433 => (some (t431.toList == t433.toList))) = some r := by rw [if_pos rfl] at H; exact H
     replace H := Option.bind_eq_some_iff.mp H
     obtain ⟨t433, A140, H⟩ := H
     have A14 := Aside0.mk A140
     clear A140
     obtain rfl := Option.some.inj H
     go_wp2_with (first | ((with_reducible refine gate_callee (f := 12) rfl ?_); refine goesL_ (some 29) rfl rfl Tryd.func12 (by kernel_rfl) rfl #[.int .i64 t429, .bool t430] rfl q16_ ?_; (with_reducible refine (spec_TemplateOf.calls kj5 t429 t430 t433 _ A14.out).mono ?_); rintro e w15 ⟨rfl, hb⟩; refine ⟨_, rfl, ?_⟩; replace HB := Aside0.mk (below_step q17_ hb); (try clear hb)))
     go_ret
     exact ⟨q19_, q17_⟩
    ·replace c13 := Bool.eq_false_iff.mpr c13
     subst c13
     replace H : (laws_FnTemplates.l0 kj5 t429 t430 t431 0) = some r := by rw [if_neg (show ¬ (false = true) by decide)] at H; exact H
     have H' := Aside0.mk H
     clear H
     go_wp2
     go_loopg [6] kj5 (fun kq v6 w' => ∃ (x6_2 : Int), v6 = .int .i64 x6_2 ∧ Aside0 (laws_FnTemplates.l0 kq t429 t430 t431 x6_2 = some r) ∧ Aside0 (kq ≤ kj5) ∧ Aside0 (Below w.heap.size w w'))
     case atStart => exact ⟨(0), q21_, H', ⟨Nat.le_refl _⟩, ⟨q17_⟩⟩
     case round =>
      clear H'
      try clear c1
      try clear p2 p2
      try clear c3
      try clear c4
      try clear c5
      try clear p6 p6
      try clear c10
      try clear c10b0
      try clear c10b1
      try clear c11
      try clear c12
      try clear c13
      obtain ⟨x6_2, rfl, HA, HK2, HB⟩ := hrel
      cases gk with
      | zero => exact absurd HA.out (by simp [laws_FnTemplates.l0])
      | succ k2 =>
       have H := HA.out
       clear HA
       simp only [laws_FnTemplates.l0] at H
       by_cases c16 : x6_2 < 256
       ·rw [if_pos c16] at H
        have c16b0 : decide (x6_2 < 256) = true := decide_eq_true c16
        clear c16
        have HC17 := Aside0.mk H
        clear H
        go_upto_region 10 with (fail)
        go_cut [52] (fun v52 wc => ∃ (kq : Nat) (x52_16 : Bool), v52 = .bool x52_16 ∧ Aside0 (laws_FnTemplates.j2 kq t429 t430 t431 x6_2 x52_16 = some r) ∧ Aside0 (kq ≤ k2) ∧ Aside0 (Below w.heap.size w wc))
        case first =>
         have H := HC17.out
         clear HC17
         replace H := Option.bind_eq_some_iff.mp H
         obtain ⟨t434, A180, H⟩ := H
         have A18 := Aside0.mk A180
         clear A180
         by_cases c19 : t434.toList = t431.toList
         ·rw [if_pos c19] at H
          have c19b0 : (t434.toList == t431.toList) = true := beq_iff_eq.mpr c19
          have c19b1 : (t434.toList != t431.toList) = false := bne_eq_false_iff_eq.mpr c19
          clear c19
          (first | rw [c19b0] | (simp only [i64_w, i32_w]; rw [c19b0]) | skip)
          by_cases c20 : x6_2 = t429
          ·rw [if_pos c20] at H
           have c20b0 : (x6_2 == t429) = true := beq_iff_eq.mpr c20
           have c20b1 : (x6_2 != t429) = false := bne_eq_false_iff_eq.mpr c20
           clear c20
           replace H := Option.bind_eq_some_iff.mp H
           obtain ⟨t435, A210, H⟩ := H
           have A21 := Aside0.mk A210
           clear A210
           have H' := Aside0.mk H
           clear H
           go_wp2_with (first | ((with_reducible refine gate_callee (f := 11) rfl ?_); refine goesL_ (some 37) rfl rfl Tryd.func11 (by kernel_rfl) rfl #[.int .i64 x6_2, .bool t430] rfl q16_ ?_; (with_reducible refine (impl_TemplateOf.calls k2 x6_2 t430 t434 _ A18.out).mono ?_); rintro e w22 ⟨rfl, hb⟩; refine ⟨_, rfl, ?_⟩; replace HB := Aside0.mk (below_step q17_ hb); (try clear hb)) | (go_at_call 11; (with_reducible refine (impl_TemplateOf.calls k2 x6_2 (!t430) t435 _ A21.out).mono ?_); rintro e w23 ⟨rfl, hb⟩; replace HB := Aside0.mk (below_step q17_ hb); (try clear hb)))
           go_meet
           case rel => exact ⟨_, ((t435.toList == t431.toList)), q21_, H', ⟨q33_⟩, ⟨q17_⟩⟩
          ·rw [if_neg c20] at H
           have c20b0 : (x6_2 == t429) = false := beq_eq_false_iff_ne.mpr c20
           have c20b1 : (x6_2 != t429) = true := bne_iff_ne.mpr c20
           have H' := Aside0.mk H
           clear H
           go_wp2_with (first | ((with_reducible refine gate_callee (f := 11) rfl ?_); refine goesL_ (some 37) rfl rfl Tryd.func11 (by kernel_rfl) rfl #[.int .i64 x6_2, .bool t430] rfl q16_ ?_; (with_reducible refine (impl_TemplateOf.calls k2 x6_2 t430 t434 _ A18.out).mono ?_); rintro e w24 ⟨rfl, hb⟩; refine ⟨_, rfl, ?_⟩; replace HB := Aside0.mk (below_step q17_ hb); (try clear hb)))
           go_meet
           case rel => exact ⟨_, (true), q21_, H', ⟨q33_⟩, ⟨q17_⟩⟩
         ·rw [if_neg c19] at H
          have c19b0 : (t434.toList == t431.toList) = false := beq_eq_false_iff_ne.mpr c19
          have c19b1 : (t434.toList != t431.toList) = true := bne_iff_ne.mpr c19
          (first | rw [c19b0] | (simp only [i64_w, i32_w]; rw [c19b0]) | skip)
          replace H := Option.bind_eq_some_iff.mp H
          obtain ⟨t436, A250, H⟩ := H
          have A25 := Aside0.mk A250
          clear A250
          have H' := Aside0.mk H
          clear H
          go_wp2_with (first | ((with_reducible refine gate_callee (f := 11) rfl ?_); refine goesL_ (some 37) rfl rfl Tryd.func11 (by kernel_rfl) rfl #[.int .i64 x6_2, .bool t430] rfl q16_ ?_; (with_reducible refine (impl_TemplateOf.calls k2 x6_2 t430 t434 _ A18.out).mono ?_); rintro e w26 ⟨rfl, hb⟩; refine ⟨_, rfl, ?_⟩; replace HB := Aside0.mk (below_step q17_ hb); (try clear hb)) | (go_at_call 11; (with_reducible refine (impl_TemplateOf.calls k2 x6_2 (!t430) t436 _ A25.out).mono ?_); rintro e w27 ⟨rfl, hb⟩; replace HB := Aside0.mk (below_step q17_ hb); (try clear hb)))
          go_meet
          case rel => exact ⟨_, ((t436.toList == t431.toList)), q21_, H', ⟨q33_⟩, ⟨q17_⟩⟩
        case rest =>
         clear HC17
         try clear c1
         try clear c2
         try clear p2 p2
         try clear c3
         try clear c4
         try clear c5
         try clear p6 p6
         try clear c10
         try clear c10b0
         try clear c10b1
         try clear c11
         try clear c12
         try clear c13
         try clear c16
         try clear c16b0
         try clear c19
         try clear c19b0
         try clear c19b1
         try clear c20
         try clear c20b0
         try clear c20b1
         obtain ⟨kq, x52_16, rfl, HA, HJ16, HB⟩ := hcut
         cases kq with
         | zero => exact absurd HA.out (by simp [laws_FnTemplates.j2])
         | succ kj16 =>
          have H := HA.out
          clear HA
          simp only [laws_FnTemplates.j2] at H
          by_cases c28 : x52_16 = true
          ·subst c28
           replace H : (some false) = some r := by rw [if_pos rfl] at H; exact H
           obtain rfl := Option.some.inj H
           go_wp2
           go_ret
           exact ⟨q19_, q17_⟩
          ·replace c28 := Bool.eq_false_iff.mpr c28
           subst c28
           replace H : (laws_FnTemplates.l0 kj16 t429 t430 t431 (wrap64 (x6_2 + 1))) = some r := by rw [if_neg (show ¬ (false = true) by decide)] at H; exact H
           have H' := Aside0.mk H
           clear H
           go_wp2
           go_roundg kj16
           case measure => have := HJ5.out; have := HK2.out; have := HJ16.out; omega
           case rel => exact ⟨(wrap64 (x6_2 + 1)), q21_, H', ⟨by have := HJ5.out; have := HK2.out; have := HJ16.out; omega⟩, ⟨q17_⟩⟩
       ·rw [if_neg c16] at H
        have c16b0 : decide (x6_2 < 256) = false := decide_eq_false c16
        clear c16
        obtain rfl := Option.some.inj H
        go_wp2
        go_ret
        exact ⟨q19_, q17_⟩
/-- THE ONE PURE STATEMENT of laws_FnTemplates: yours. -/
def laws_FnTemplates.Pure : Prop := ∀ (l0 : List Int), l0.length ≤ maxLen → l0.length * 1 ≤ 140737488351232 → (∀ x ∈ l0, (Lit.int .u8 x).wf = true) → ∃ k, laws_FnTemplates.f k l0 = some true
theorem laws_FnTemplates.walk (P : laws_FnTemplates.Pure) (a0 : Option Addr) (len0 cap0 : Nat) (z0 : List Int) (w : World) (w0 : (a0 = none ∧ len0 = 0 ∧ cap0 = 0 ∧ z0 = []) ∨ ∃ x, a0 = some x ∧ len0 ≤ cap0 ∧ cap0 ≤ maxLen ∧ z0.length = cap0 ∧ (∀ i, i < z0.length → w.cell? (x.add i) = some (.int .u8 (z0.getD i 0))) ∧ ∀ n ∈ z0, (Lit.int .u8 n).wf = true) (y0 : len0 * 1 ≤ 140737488351232) (hG : Go.Proofs.YtodlnnoekccmmaaDoor.LibW.GL w) :
  Calls Tryd.prog 4 #[.slice a0 len0 cap0] w fun e w' => e = .returned (.bool true) ∧ Below w.heap.size w w' := by
 obtain ⟨l0, rfl, hr0, hm0, hw0, hc0⟩ := ReadsInt.ofRowC w0
 obtain ⟨k, h⟩ := P l0 hm0 y0 hw0
 refine (laws_FnTemplates.calls k _ _ l0 true w (Kd.C_of_reads (d := (0 : Int)) (h1 := fun _ => rfl) hr0) hc0 h).mono ?_
 rintro e w' ⟨rfl, hd⟩
 exact ⟨rfl, hd⟩
end Go.Proofs.YtodlnnoekccmmaaDoor.QFnTemplates
