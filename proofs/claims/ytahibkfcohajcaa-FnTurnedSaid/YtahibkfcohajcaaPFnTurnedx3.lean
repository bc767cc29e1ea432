-- PRINTED BY print.sh 35421559b90ae4d0a3588c463048766b98c2df88dd9212a6774a882060cdf62d: not written by this session
import Derived.Test.YtahibkfcohajcaaPFnTurnedx0
import Derived.Test.YtahibkfcohajcaaPFnTurnedx1
import Derived.Test.YtahibkfcohajcaaPFnTurnedx2
namespace Go.Proofs.Ytahibkfcohajcaa.PFnTurned
open Go.RowKit Go.Proofs.YtahibkfcohajcaaW.PrintWords Go.Proofs.YtahibkfcohajcaaW.PrintLast Go.Proofs.YtahibkfcohajcaaW.PrintMore
attribute [local go_sem] max2_int min2_int max_two min_two max_three min_three max_four min_four   -- for this text's walks alone
set_option linter.unusedVariables false
set_option linter.unusedSimpArgs false

/-! ### laws_FnTurned: function 12 -/
mutual
def laws_FnTurned.j0 : Nat → Int → Int → Int → Int → Int → Int → Int → Bool → Option (Bool)
  | 0, _, _, _, _, _, _, _, _ => none
  | k + 1, x3, x4, x5, x6, x7, x8, x9, x71 => if x71 = true then (if x6 = x8 then (some (x7 == x9)) else (some false)) else ((impl_Turned.f k (Go.bits .xor .i64 x3 1) x6 x7).bind fun bt197 => (if x3 > 1 then (laws_FnTurned.j1 k x3 x4 x5 bt197.1 x4 x5 9) else (laws_FnTurned.j1 k x3 x4 x5 bt197.1 x4 x5 8)))
def laws_FnTurned.j1 : Nat → Int → Int → Int → Int → Int → Int → Int → Option (Bool)
  | 0, _, _, _, _, _, _, _ => none
  | k + 1, x3, x4, x5, x10, x12, x13, x14 => laws_FnTurned.l0 k x3 x4 x5 x10 x12 x13 x14 0
def laws_FnTurned.l0 : Nat → Int → Int → Int → Int → Int → Int → Int → Int → Option (Bool)
  | 0, _, _, _, _, _, _, _, _ => none
  | k + 1, x3, x4, x5, x10, x12, x13, x14, x15 => if x15 < x14 then ((impl_Turned.f k x3 x12 x13).bind fun bt199 => (laws_FnTurned.l0 k x3 x4 x5 x10 bt199.1 bt199.2 x14 (wrap64 (x15 + 1)))) else (if x10 = x4 then (if x12 = x4 then (if x3 < 2 then (some true) else (some ((Int.tmod (wrap64 (Int.tdiv x13 16)) 2) == (Int.tmod (wrap64 (Int.tdiv x5 16)) 2)))) else (some false)) else (some false))
end
def laws_FnTurned.f (k : Nat) (l0 : List Int) : Option (Bool) := (laws_big.f l0).bind fun t189 => (if t189 = true then (some true) else ((spec_DrawTurned.f k l0).bind fun bt190 => ((impl_Turned.f k bt190.1 bt190.2.1 bt190.2.2).bind fun bt193 => ((spec_Turned.f bt190.1 bt190.2.1 bt190.2.2).bind fun bt195 => (if bt193.1 = bt195.1 then (if bt193.2 = bt195.2 then (if bt190.1 < 0 then (laws_FnTurned.j0 k bt190.1 bt190.2.1 bt190.2.2 bt193.1 bt193.2 bt195.1 bt195.2 true) else (if bt190.1 > 3 then (laws_FnTurned.j0 k bt190.1 bt190.2.1 bt190.2.2 bt193.1 bt193.2 bt195.1 bt195.2 true) else (if bt190.2.1 < 0 then (laws_FnTurned.j0 k bt190.1 bt190.2.1 bt190.2.2 bt193.1 bt193.2 bt195.1 bt195.2 true) else (if bt190.2.1 > 255 then (laws_FnTurned.j0 k bt190.1 bt190.2.1 bt190.2.2 bt193.1 bt193.2 bt195.1 bt195.2 true) else (if bt190.2.2 < 0 then (laws_FnTurned.j0 k bt190.1 bt190.2.1 bt190.2.2 bt193.1 bt193.2 bt195.1 bt195.2 true) else (laws_FnTurned.j0 k bt190.1 bt190.2.1 bt190.2.2 bt193.1 bt193.2 bt195.1 bt195.2 (decide (bt190.2.2 > 255)))))))) else (laws_FnTurned.j0 k bt190.1 bt190.2.1 bt190.2.2 bt193.1 bt193.2 bt195.1 bt195.2 true)) else (laws_FnTurned.j0 k bt190.1 bt190.2.1 bt190.2.2 bt193.1 bt193.2 bt195.1 bt195.2 true))))))
theorem laws_FnTurned.mono_l : ∀ k, (∀ y0 y1 y2 y3 y4 y5 y6 y7, LeO (laws_FnTurned.j0 k y0 y1 y2 y3 y4 y5 y6 y7) (laws_FnTurned.j0 (k + 1) y0 y1 y2 y3 y4 y5 y6 y7)) ∧ (∀ y0 y1 y2 y3 y4 y5 y6, LeO (laws_FnTurned.j1 k y0 y1 y2 y3 y4 y5 y6) (laws_FnTurned.j1 (k + 1) y0 y1 y2 y3 y4 y5 y6)) ∧ (∀ y0 y1 y2 y3 y4 y5 y6 y7, LeO (laws_FnTurned.l0 k y0 y1 y2 y3 y4 y5 y6 y7) (laws_FnTurned.l0 (k + 1) y0 y1 y2 y3 y4 y5 y6 y7))
  | 0 => ⟨fun _ _ _ _ _ _ _ _ r h => by simp [laws_FnTurned.j0] at h, fun _ _ _ _ _ _ _ r h => by simp [laws_FnTurned.j1] at h, fun _ _ _ _ _ _ _ _ r h => by simp [laws_FnTurned.l0] at h⟩
  | k + 1 => by
    obtain ⟨ih0, ih1, ih2⟩ := laws_FnTurned.mono_l k
    refine ⟨?_, ?_, ?_⟩
    · intro y0 y1 y2 y3 y4 y5 y6 y7
      unfold laws_FnTurned.j0
      repeat' first
      | (with_reducible exact ih0 _ _ _ _ _ _ _ _)
      | (with_reducible exact ih1 _ _ _ _ _ _ _)
      | (with_reducible exact ih2 _ _ _ _ _ _ _ _)
      | (with_reducible exact impl_Turned.mono _ _ _ _)
      | (with_reducible exact spec_DrawTurned.mono _ _)
      | (with_reducible exact LeO.refl _)
      | (with_reducible exact LeO.none _)
      | (with_reducible refine LeO.ite ?_ ?_)
      | (with_reducible refine LeO.bind ?_ (fun _ => ?_))
      | exact ih0 _ _ _ _ _ _ _ _
      | exact ih1 _ _ _ _ _ _ _
      | exact ih2 _ _ _ _ _ _ _ _
      | exact impl_Turned.mono _ _ _ _
      | exact spec_DrawTurned.mono _ _
      | exact LeO.none _
      | refine LeO.ite ?_ ?_
      | refine LeO.bind ?_ (fun _ => ?_)
    · intro y0 y1 y2 y3 y4 y5 y6
      unfold laws_FnTurned.j1
      repeat' first
      | (with_reducible exact ih0 _ _ _ _ _ _ _ _)
      | (with_reducible exact ih1 _ _ _ _ _ _ _)
      | (with_reducible exact ih2 _ _ _ _ _ _ _ _)
      | (with_reducible exact impl_Turned.mono _ _ _ _)
      | (with_reducible exact spec_DrawTurned.mono _ _)
      | (with_reducible exact LeO.refl _)
      | (with_reducible exact LeO.none _)
      | (with_reducible refine LeO.ite ?_ ?_)
      | (with_reducible refine LeO.bind ?_ (fun _ => ?_))
      | exact ih0 _ _ _ _ _ _ _ _
      | exact ih1 _ _ _ _ _ _ _
      | exact ih2 _ _ _ _ _ _ _ _
      | exact impl_Turned.mono _ _ _ _
      | exact spec_DrawTurned.mono _ _
      | exact LeO.none _
      | refine LeO.ite ?_ ?_
      | refine LeO.bind ?_ (fun _ => ?_)
    · intro y0 y1 y2 y3 y4 y5 y6 y7
      unfold laws_FnTurned.l0
      repeat' first
      | (with_reducible exact ih0 _ _ _ _ _ _ _ _)
      | (with_reducible exact ih1 _ _ _ _ _ _ _)
      | (with_reducible exact ih2 _ _ _ _ _ _ _ _)
      | (with_reducible exact impl_Turned.mono _ _ _ _)
      | (with_reducible exact spec_DrawTurned.mono _ _)
      | (with_reducible exact LeO.refl _)
      | (with_reducible exact LeO.none _)
      | (with_reducible refine LeO.ite ?_ ?_)
      | (with_reducible refine LeO.bind ?_ (fun _ => ?_))
      | exact ih0 _ _ _ _ _ _ _ _
      | exact ih1 _ _ _ _ _ _ _
      | exact ih2 _ _ _ _ _ _ _ _
      | exact impl_Turned.mono _ _ _ _
      | exact spec_DrawTurned.mono _ _
      | exact LeO.none _
      | refine LeO.ite ?_ ?_
      | refine LeO.bind ?_ (fun _ => ?_)
theorem laws_FnTurned.mono : ∀ a0 k, LeO (laws_FnTurned.f k a0) (laws_FnTurned.f (k + 1) a0) := by
  intro a0 k
  obtain ⟨ih0, ih1, ih2⟩ := laws_FnTurned.mono_l k
  unfold laws_FnTurned.f
  repeat' first
      | (with_reducible exact ih0 _ _ _ _ _ _ _ _)
      | (with_reducible exact ih1 _ _ _ _ _ _ _)
      | (with_reducible exact ih2 _ _ _ _ _ _ _ _)
      | (with_reducible exact impl_Turned.mono _ _ _ _)
      | (with_reducible exact spec_DrawTurned.mono _ _)
      | (with_reducible exact LeO.refl _)
      | (with_reducible exact LeO.none _)
      | (with_reducible refine LeO.ite ?_ ?_)
      | (with_reducible refine LeO.bind ?_ (fun _ => ?_))
      | exact ih0 _ _ _ _ _ _ _ _
      | exact ih1 _ _ _ _ _ _ _
      | exact ih2 _ _ _ _ _ _ _ _
      | exact impl_Turned.mono _ _ _ _
      | exact spec_DrawTurned.mono _ _
      | exact LeO.none _
      | refine LeO.ite ?_ ?_
      | refine LeO.bind ?_ (fun _ => ?_)
set_option maxHeartbeats 8000000 in
set_option maxRecDepth 100000 in
theorem laws_FnTurned.calls (k : Nat) (A0 : Option Addr) (c0 : Nat) (l0 : List Int) (r : Bool) (w : World) (hr0 : Kd.C (Kd.int .u8) w A0 l0.length l0) (hc0 : l0.length ≤ c0) (h : laws_FnTurned.f k l0 = some r) :
    Calls Try.prog 12 #[.slice A0 l0.length c0] w fun e w' => e = .returned (.bool r) ∧ Below w.heap.size w w' := by
  have HR0 := Aside0.mk hr0
  have HC0 := Aside0.mk hc0
  clear hr0 hc0
  have HB := Aside0.mk (Below.refl w.heap.size w)
  have H : ((laws_big.f l0).bind fun t189 => (if t189 = true then (some true) else ((spec_DrawTurned.f k l0).bind fun bt190 => ((impl_Turned.f k bt190.1 bt190.2.1 bt190.2.2).bind fun bt193 => ((spec_Turned.f bt190.1 bt190.2.1 bt190.2.2).bind fun bt195 => (if bt193.1 = bt195.1 then (if bt193.2 = bt195.2 then (if bt190.1 < 0 then (laws_FnTurned.j0 k bt190.1 bt190.2.1 bt190.2.2 bt193.1 bt193.2 bt195.1 bt195.2 true) else (if bt190.1 > 3 then (laws_FnTurned.j0 k bt190.1 bt190.2.1 bt190.2.2 bt193.1 bt193.2 bt195.1 bt195.2 true) else (if bt190.2.1 < 0 then (laws_FnTurned.j0 k bt190.1 bt190.2.1 bt190.2.2 bt193.1 bt193.2 bt195.1 bt195.2 true) else (if bt190.2.1 > 255 then (laws_FnTurned.j0 k bt190.1 bt190.2.1 bt190.2.2 bt193.1 bt193.2 bt195.1 bt195.2 true) else (if bt190.2.2 < 0 then (laws_FnTurned.j0 k bt190.1 bt190.2.1 bt190.2.2 bt193.1 bt193.2 bt195.1 bt195.2 true) else (laws_FnTurned.j0 k bt190.1 bt190.2.1 bt190.2.2 bt193.1 bt193.2 bt195.1 bt195.2 (decide (bt190.2.2 > 255)))))))) else (laws_FnTurned.j0 k bt190.1 bt190.2.1 bt190.2.2 bt193.1 bt193.2 bt195.1 bt195.2 true)) else (laws_FnTurned.j0 k bt190.1 bt190.2.1 bt190.2.2 bt193.1 bt193.2 bt195.1 bt195.2 true))))))) = some r := h
  clear h
  replace H := Option.bind_eq_some_iff.mp H
  obtain ⟨t189, A20, H⟩ := H
  replace H : (if t189 = true then (some true) else ((spec_DrawTurned.f k l0).bind fun bt190 => ((impl_Turned.f k bt190.1 bt190.2.1 bt190.2.2).bind fun bt193 => ((spec_Turned.f bt190.1 bt190.2.1 bt190.2.2).bind fun bt195 => (if bt193.1 = bt195.1 then (if bt193.2 = bt195.2 then (if bt190.1 < 0 then (laws_FnTurned.j0 k bt190.1 bt190.2.1 bt190.2.2 bt193.1 bt193.2 bt195.1 bt195.2 true) else (if bt190.1 > 3 then (laws_FnTurned.j0 k bt190.1 bt190.2.1 bt190.2.2 bt193.1 bt193.2 bt195.1 bt195.2 true) else (if bt190.2.1 < 0 then (laws_FnTurned.j0 k bt190.1 bt190.2.1 bt190.2.2 bt193.1 bt193.2 bt195.1 bt195.2 true) else (if bt190.2.1 > 255 then (laws_FnTurned.j0 k bt190.1 bt190.2.1 bt190.2.2 bt193.1 bt193.2 bt195.1 bt195.2 true) else (if bt190.2.2 < 0 then (laws_FnTurned.j0 k bt190.1 bt190.2.1 bt190.2.2 bt193.1 bt193.2 bt195.1 bt195.2 true) else (laws_FnTurned.j0 k bt190.1 bt190.2.1 bt190.2.2 bt193.1 bt193.2 bt195.1 bt195.2 (decide (bt190.2.2 > 255)))))))) else (laws_FnTurned.j0 k bt190.1 bt190.2.1 bt190.2.2 bt193.1 bt193.2 bt195.1 bt195.2 true)) else (laws_FnTurned.j0 k bt190.1 bt190.2.1 bt190.2.2 bt193.1 bt193.2 bt195.1 bt195.2 true)))))) = some r := H
  have A2 := Aside0.mk A20
  clear A20
  by_cases c3 : t189 = true
  · subst c3
    have H1 : (some true) = some r := by rw [if_pos rfl] at H; exact H
    clear H
    have H := H1
    clear H1
    obtain rfl := Option.some.inj H
    go_enter Try.func12, Try.ntmps12
    go_wp2_with (first | ((with_reducible refine gate_callee (f := 16) rfl ?_); refine goesL_ (some 19) rfl rfl Try.func16 (by kernel_rfl) rfl #[.slice A0 l0.length c0] rfl (by (try simp only [List.map_toArray, List.map_cons, List.map_nil]); first | done | rfl | (simp only [List.length_drop, List.length_take]; rfl)) ?_; (with_reducible refine (laws_big.calls _ _ l0 true _ ?side1 ?side2 A2.out).mono ?_); (case side1 => repeat (first | exact HR0.out | (with_reducible refine Kd.C_alloc ?_ _) | (with_reducible refine Kd.C_drewN ?_ _) | (with_reducible refine Kd.C_drew ?_))); (case side2 => exact HC0.out); rintro e w' ⟨rfl, ⟨nd, rfl⟩⟩; refine ⟨_, rfl, ?_⟩))
    go_ret
    exact ⟨by first | rfl | (simp [errW_none, errW_some] <;> rfl) | (simp [*, errW_none, errW_some] <;> rfl), by repeat (first | (with_reducible first | exact HB.out | apply below_alloc | apply pw_below_drewN | apply below_drew1) | exact HB.out)⟩
  · replace c3 := Bool.eq_false_iff.mpr c3
    subst c3
    have H1 : ((spec_DrawTurned.f k l0).bind fun bt190 => ((impl_Turned.f k bt190.1 bt190.2.1 bt190.2.2).bind fun bt193 => ((spec_Turned.f bt190.1 bt190.2.1 bt190.2.2).bind fun bt195 => (if bt193.1 = bt195.1 then (if bt193.2 = bt195.2 then (if bt190.1 < 0 then (laws_FnTurned.j0 k bt190.1 bt190.2.1 bt190.2.2 bt193.1 bt193.2 bt195.1 bt195.2 true) else (if bt190.1 > 3 then (laws_FnTurned.j0 k bt190.1 bt190.2.1 bt190.2.2 bt193.1 bt193.2 bt195.1 bt195.2 true) else (if bt190.2.1 < 0 then (laws_FnTurned.j0 k bt190.1 bt190.2.1 bt190.2.2 bt193.1 bt193.2 bt195.1 bt195.2 true) else (if bt190.2.1 > 255 then (laws_FnTurned.j0 k bt190.1 bt190.2.1 bt190.2.2 bt193.1 bt193.2 bt195.1 bt195.2 true) else (if bt190.2.2 < 0 then (laws_FnTurned.j0 k bt190.1 bt190.2.1 bt190.2.2 bt193.1 bt193.2 bt195.1 bt195.2 true) else (laws_FnTurned.j0 k bt190.1 bt190.2.1 bt190.2.2 bt193.1 bt193.2 bt195.1 bt195.2 (decide (bt190.2.2 > 255)))))))) else (laws_FnTurned.j0 k bt190.1 bt190.2.1 bt190.2.2 bt193.1 bt193.2 bt195.1 bt195.2 true)) else (laws_FnTurned.j0 k bt190.1 bt190.2.1 bt190.2.2 bt193.1 bt193.2 bt195.1 bt195.2 true))))) = some r := by rw [if_neg (show ¬ (false = true) by decide)] at H; exact H
    clear H
    have H := H1
    clear H1
    replace H := Option.bind_eq_some_iff.mp H
    obtain ⟨⟨t190, t191, t192⟩, A40, H⟩ := H
    replace H : ((impl_Turned.f k t190 t191 t192).bind fun bt193 => ((spec_Turned.f t190 t191 t192).bind fun bt195 => (if bt193.1 = bt195.1 then (if bt193.2 = bt195.2 then (if t190 < 0 then (laws_FnTurned.j0 k t190 t191 t192 bt193.1 bt193.2 bt195.1 bt195.2 true) else (if t190 > 3 then (laws_FnTurned.j0 k t190 t191 t192 bt193.1 bt193.2 bt195.1 bt195.2 true) else (if t191 < 0 then (laws_FnTurned.j0 k t190 t191 t192 bt193.1 bt193.2 bt195.1 bt195.2 true) else (if t191 > 255 then (laws_FnTurned.j0 k t190 t191 t192 bt193.1 bt193.2 bt195.1 bt195.2 true) else (if t192 < 0 then (laws_FnTurned.j0 k t190 t191 t192 bt193.1 bt193.2 bt195.1 bt195.2 true) else (laws_FnTurned.j0 k t190 t191 t192 bt193.1 bt193.2 bt195.1 bt195.2 (decide (t192 > 255)))))))) else (laws_FnTurned.j0 k t190 t191 t192 bt193.1 bt193.2 bt195.1 bt195.2 true)) else (laws_FnTurned.j0 k t190 t191 t192 bt193.1 bt193.2 bt195.1 bt195.2 true)))) = some r := H
    have A4 := Aside0.mk A40
    clear A40
    replace H := Option.bind_eq_some_iff.mp H
    obtain ⟨⟨t193, t194⟩, A50, H⟩ := H
    replace H : ((spec_Turned.f t190 t191 t192).bind fun bt195 => (if t193 = bt195.1 then (if t194 = bt195.2 then (if t190 < 0 then (laws_FnTurned.j0 k t190 t191 t192 t193 t194 bt195.1 bt195.2 true) else (if t190 > 3 then (laws_FnTurned.j0 k t190 t191 t192 t193 t194 bt195.1 bt195.2 true) else (if t191 < 0 then (laws_FnTurned.j0 k t190 t191 t192 t193 t194 bt195.1 bt195.2 true) else (if t191 > 255 then (laws_FnTurned.j0 k t190 t191 t192 t193 t194 bt195.1 bt195.2 true) else (if t192 < 0 then (laws_FnTurned.j0 k t190 t191 t192 t193 t194 bt195.1 bt195.2 true) else (laws_FnTurned.j0 k t190 t191 t192 t193 t194 bt195.1 bt195.2 (decide (t192 > 255)))))))) else (laws_FnTurned.j0 k t190 t191 t192 t193 t194 bt195.1 bt195.2 true)) else (laws_FnTurned.j0 k t190 t191 t192 t193 t194 bt195.1 bt195.2 true))) = some r := H
    have A5 := Aside0.mk A50
    clear A50
    replace H := Option.bind_eq_some_iff.mp H
    obtain ⟨⟨t195, t196⟩, A60, H⟩ := H
    replace H : (if t193 = t195 then (if t194 = t196 then (if t190 < 0 then (laws_FnTurned.j0 k t190 t191 t192 t193 t194 t195 t196 true) else (if t190 > 3 then (laws_FnTurned.j0 k t190 t191 t192 t193 t194 t195 t196 true) else (if t191 < 0 then (laws_FnTurned.j0 k t190 t191 t192 t193 t194 t195 t196 true) else (if t191 > 255 then (laws_FnTurned.j0 k t190 t191 t192 t193 t194 t195 t196 true) else (if t192 < 0 then (laws_FnTurned.j0 k t190 t191 t192 t193 t194 t195 t196 true) else (laws_FnTurned.j0 k t190 t191 t192 t193 t194 t195 t196 (decide (t192 > 255)))))))) else (laws_FnTurned.j0 k t190 t191 t192 t193 t194 t195 t196 true)) else (laws_FnTurned.j0 k t190 t191 t192 t193 t194 t195 t196 true)) = some r := H
    have A6 := Aside0.mk A60
    clear A60
    have HC7 := Aside0.mk H
    clear H
    go_enter Try.func12, Try.ntmps12
    go_upto_region 6 with (first | ((with_reducible refine gate_callee (f := 16) rfl ?_); refine goesL_ (some 19) rfl rfl Try.func16 (by kernel_rfl) rfl #[.slice A0 l0.length c0] rfl (by (try simp only [List.map_toArray, List.map_cons, List.map_nil]); first | done | rfl | (simp only [List.length_drop, List.length_take]; rfl)) ?_; (with_reducible refine (laws_big.calls _ _ l0 false _ ?side1 ?side2 A2.out).mono ?_); (case side1 => repeat (first | exact HR0.out | (with_reducible refine Kd.C_alloc ?_ _) | (with_reducible refine Kd.C_drewN ?_ _) | (with_reducible refine Kd.C_drew ?_))); (case side2 => exact HC0.out); rintro e w' ⟨rfl, ⟨nd, rfl⟩⟩; refine ⟨_, rfl, ?_⟩) | ((with_reducible refine gate_callee (f := 38) rfl ?_); refine goesL_ (some 22) rfl rfl Try.func38 (by kernel_rfl) rfl #[.slice A0 l0.length c0] rfl (by (try simp only [List.map_toArray, List.map_cons, List.map_nil]); first | done | rfl | (simp only [List.length_drop, List.length_take]; rfl)) ?_; (with_reducible refine (spec_DrawTurned.calls k _ _ l0 t190 t191 t192 _ ?side1 ?side2 A4.out).mono ?_); (case side1 => repeat (first | exact HR0.out | (with_reducible refine Kd.C_alloc ?_ _) | (with_reducible refine Kd.C_drewN ?_ _) | (with_reducible refine Kd.C_drew ?_))); (case side2 => exact HC0.out); rintro e w8 ⟨rfl, hb⟩; refine ⟨_, rfl, ?_⟩; have n0_ := Aside0.mk (below_step (by repeat (first | (with_reducible first | exact HB.out | apply below_alloc | apply pw_below_drewN | apply below_drew1) | exact HB.out)) hb); clear HB; have HB := n0_; clear n0_; (try clear hb); (try clear hb2); (try clear hk); (try clear hi)) | ((with_reducible refine gate_callee (f := 39) rfl ?_); refine goesL_ (some 30) rfl rfl Try.func39 (by kernel_rfl) rfl #[.int .i64 t190, .int .i64 t191, .int .i64 t192] rfl (by (try simp only [List.map_toArray, List.map_cons, List.map_nil]); first | done | rfl | (simp only [List.length_drop, List.length_take]; rfl)) ?_; (with_reducible refine (impl_Turned.calls k t190 t191 t192 t193 t194 _ A5.out).mono ?_); rintro e w' ⟨rfl, ⟨nd, rfl⟩⟩; refine ⟨_, rfl, ?_⟩) | ((with_reducible refine gate_callee (f := 40) rfl ?_); refine goesL_ (some 37) rfl rfl Try.func40 (by kernel_rfl) rfl #[.int .i64 t190, .int .i64 t191, .int .i64 t192] rfl (by (try simp only [List.map_toArray, List.map_cons, List.map_nil]); first | done | rfl | (simp only [List.length_drop, List.length_take]; rfl)) ?_; (with_reducible refine (spec_Turned.calls t190 t191 t192 t195 t196 _ A6.out).mono ?_); rintro e w' ⟨rfl, ⟨nd, rfl⟩⟩; refine ⟨_, rfl, ?_⟩))
    (try simp only [Act.put, List.setIfInBounds_toArray, List.set_cons_zero, List.set_cons_succ])
    go_cut [71] (fun v71 wc => ∃ (kq : Nat) (x71_6 : Bool), v71 = .bool x71_6 ∧ Aside0 (laws_FnTurned.j0 kq t190 t191 t192 t193 t194 t195 t196 x71_6 = some r) ∧ Aside0 (kq ≤ k) ∧ Aside0 (Below w.heap.size w wc))
    case first =>
      have H := HC7.out
      clear HC7
      by_cases c9 : t193 = t195
      · rw [if_pos c9] at H
        have c9b0 : (t193 == t195) = true := beq_iff_eq.mpr c9
        have c9b1 : (t193 != t195) = false := bne_eq_false_iff_eq.mpr c9
        clear c9
        (first | rw [c9b0] | (simp only [i64_w, i32_w]; rw [c9b0]) | skip)
        by_cases c10 : t194 = t196
        · rw [if_pos c10] at H
          have c10b0 : (t194 == t196) = true := beq_iff_eq.mpr c10
          have c10b1 : (t194 != t196) = false := bne_eq_false_iff_eq.mpr c10
          clear c10
          by_cases c11 : t190 < 0
          · rw [if_pos c11] at H
            have c11b0 : decide (t190 < 0) = true := decide_eq_true c11
            clear c11
            have H' := Aside0.mk H
            clear H
            go_wp2
            go_meet
            case rel => exact ⟨_, (true), (by first | rfl | (simp; done) | (simp [*]; done)), H', ⟨by first | omega | exact Nat.le_refl _⟩, ⟨by repeat (first | (with_reducible first | exact HB.out | apply below_alloc | apply pw_below_drewN | apply below_drew1) | exact HB.out)⟩⟩
          · rw [if_neg c11] at H
            have c11b0 : decide (t190 < 0) = false := decide_eq_false c11
            clear c11
            by_cases c12 : t190 > 3
            · rw [if_pos c12] at H
              have c12b0 : decide (3 < t190) = true := decide_eq_true c12
              clear c12
              have H' := Aside0.mk H
              clear H
              go_wp2
              go_meet
              case rel => exact ⟨_, (true), (by first | rfl | (simp; done) | (simp [*]; done)), H', ⟨by first | omega | exact Nat.le_refl _⟩, ⟨by repeat (first | (with_reducible first | exact HB.out | apply below_alloc | apply pw_below_drewN | apply below_drew1) | exact HB.out)⟩⟩
            · rw [if_neg c12] at H
              have c12b0 : decide (3 < t190) = false := decide_eq_false c12
              clear c12
              by_cases c13 : t191 < 0
              · rw [if_pos c13] at H
                have c13b0 : decide (t191 < 0) = true := decide_eq_true c13
                clear c13
                have H' := Aside0.mk H
                clear H
                go_wp2
                go_meet
                case rel => exact ⟨_, (true), (by first | rfl | (simp; done) | (simp [*]; done)), H', ⟨by first | omega | exact Nat.le_refl _⟩, ⟨by repeat (first | (with_reducible first | exact HB.out | apply below_alloc | apply pw_below_drewN | apply below_drew1) | exact HB.out)⟩⟩
              · rw [if_neg c13] at H
                have c13b0 : decide (t191 < 0) = false := decide_eq_false c13
                clear c13
                by_cases c14 : t191 > 255
                · rw [if_pos c14] at H
                  have c14b0 : decide (255 < t191) = true := decide_eq_true c14
                  clear c14
                  have H' := Aside0.mk H
                  clear H
                  go_wp2
                  go_meet
                  case rel => exact ⟨_, (true), (by first | rfl | (simp; done) | (simp [*]; done)), H', ⟨by first | omega | exact Nat.le_refl _⟩, ⟨by repeat (first | (with_reducible first | exact HB.out | apply below_alloc | apply pw_below_drewN | apply below_drew1) | exact HB.out)⟩⟩
                · rw [if_neg c14] at H
                  have c14b0 : decide (255 < t191) = false := decide_eq_false c14
                  clear c14
                  by_cases c15 : t192 < 0
                  · rw [if_pos c15] at H
                    have c15b0 : decide (t192 < 0) = true := decide_eq_true c15
                    clear c15
                    have H' := Aside0.mk H
                    clear H
                    go_wp2
                    go_meet
                    case rel => exact ⟨_, (true), (by first | rfl | (simp; done) | (simp [*]; done)), H', ⟨by first | omega | exact Nat.le_refl _⟩, ⟨by repeat (first | (with_reducible first | exact HB.out | apply below_alloc | apply pw_below_drewN | apply below_drew1) | exact HB.out)⟩⟩
                  · rw [if_neg c15] at H
                    have c15b0 : decide (t192 < 0) = false := decide_eq_false c15
                    clear c15
                    have H' := Aside0.mk H
                    clear H
                    go_wp2
                    go_meet
                    case rel => exact ⟨_, (decide (t192 > 255)), (by first | rfl | (simp; done) | (simp [*]; done)), H', ⟨by first | omega | exact Nat.le_refl _⟩, ⟨by repeat (first | (with_reducible first | exact HB.out | apply below_alloc | apply pw_below_drewN | apply below_drew1) | exact HB.out)⟩⟩
        · rw [if_neg c10] at H
          have c10b0 : (t194 == t196) = false := beq_eq_false_iff_ne.mpr c10
          have c10b1 : (t194 != t196) = true := bne_iff_ne.mpr c10
          have H' := Aside0.mk H
          clear H
          go_wp2
          go_meet
          case rel => exact ⟨_, (true), (by first | rfl | (simp; done) | (simp [*]; done)), H', ⟨by first | omega | exact Nat.le_refl _⟩, ⟨by repeat (first | (with_reducible first | exact HB.out | apply below_alloc | apply pw_below_drewN | apply below_drew1) | exact HB.out)⟩⟩
      · rw [if_neg c9] at H
        have c9b0 : (t193 == t195) = false := beq_eq_false_iff_ne.mpr c9
        have c9b1 : (t193 != t195) = true := bne_iff_ne.mpr c9
        (first | rw [c9b0] | (simp only [i64_w, i32_w]; rw [c9b0]) | skip)
        have H' := Aside0.mk H
        clear H
        go_wp2
        go_meet
        case rel => exact ⟨_, (true), (by first | rfl | (simp; done) | (simp [*]; done)), H', ⟨by first | omega | exact Nat.le_refl _⟩, ⟨by repeat (first | (with_reducible first | exact HB.out | apply below_alloc | apply pw_below_drewN | apply below_drew1) | exact HB.out)⟩⟩
    case rest =>
      clear HC7
      try clear c1
      try clear p2
      try clear c3
      try clear c4
      try clear c9
      try clear c9b0
      try clear c9b1
      try clear c10
      try clear c10b0
      try clear c10b1
      try clear c11
      try clear c11b0
      try clear c12
      try clear c12b0
      try clear c13
      try clear c13b0
      try clear c14
      try clear c14b0
      try clear c15
      try clear c15b0
      obtain ⟨kq, x71_6, rfl, HA, HJ6, HB⟩ := hcut
      cases kq with
      | zero => exact absurd HA.out (by simp [laws_FnTurned.j0])
      | succ kj6 =>
        have H := HA.out
        clear HA
        simp only [laws_FnTurned.j0] at H
        by_cases c16 : x71_6 = true
        · subst c16
          have H1 : (if t193 = t195 then (some (t194 == t196)) else (some false)) = some r := by rw [if_pos rfl] at H; exact H
          clear H
          have H := H1
          clear H1
          by_cases c17 : t193 = t195
          · rw [if_pos c17] at H
            have c17b0 : (t193 == t195) = true := beq_iff_eq.mpr c17
            have c17b1 : (t193 != t195) = false := bne_eq_false_iff_eq.mpr c17
            clear c17
            obtain rfl := Option.some.inj H
            go_wp2
            go_ret
            exact ⟨by first | rfl | (simp [errW_none, errW_some] <;> rfl) | (simp [*, errW_none, errW_some] <;> rfl), by repeat (first | (with_reducible first | exact HB.out | apply below_alloc | apply pw_below_drewN | apply below_drew1) | exact HB.out)⟩
          · rw [if_neg c17] at H
            have c17b0 : (t193 == t195) = false := beq_eq_false_iff_ne.mpr c17
            have c17b1 : (t193 != t195) = true := bne_iff_ne.mpr c17
            obtain rfl := Option.some.inj H
            go_wp2
            go_ret
            exact ⟨by first | rfl | (simp [errW_none, errW_some] <;> rfl) | (simp [*, errW_none, errW_some] <;> rfl), by repeat (first | (with_reducible first | exact HB.out | apply below_alloc | apply pw_below_drewN | apply below_drew1) | exact HB.out)⟩
        · replace c16 := Bool.eq_false_iff.mpr c16
          subst c16
          have H1 : ((impl_Turned.f kj6 (Go.bits .xor .i64 t190 1) t193 t194).bind fun bt197 => (if t190 > 1 then (laws_FnTurned.j1 kj6 t190 t191 t192 bt197.1 t191 t192 9) else (laws_FnTurned.j1 kj6 t190 t191 t192 bt197.1 t191 t192 8))) = some r := by rw [if_neg (show ¬ (false = true) by decide)] at H; exact H
          clear H
          have H := H1
          clear H1
          replace H := Option.bind_eq_some_iff.mp H
          obtain ⟨⟨t197, t198⟩, A180, H⟩ := H
          replace H : (if t190 > 1 then (laws_FnTurned.j1 kj6 t190 t191 t192 t197 t191 t192 9) else (laws_FnTurned.j1 kj6 t190 t191 t192 t197 t191 t192 8)) = some r := H
          have A18 := Aside0.mk A180
          clear A180
          have HC19 := Aside0.mk H
          clear H
          go_upto_if 91 with (first | ((with_reducible refine gate_callee (f := 39) rfl ?_); refine goesL_ (some 85) rfl rfl Try.func39 (by kernel_rfl) rfl #[.int .i64 (Go.bits .xor .i64 t190 1), .int .i64 t193, .int .i64 t194] rfl (by (try simp only [List.map_toArray, List.map_cons, List.map_nil]); first | done | rfl | (simp only [List.length_drop, List.length_take]; rfl)) ?_; (with_reducible refine (impl_Turned.calls kj6 (Go.bits .xor .i64 t190 1) t193 t194 t197 t198 _ A18.out).mono ?_); rintro e w' ⟨rfl, ⟨nd, rfl⟩⟩; refine ⟨_, rfl, ?_⟩))
          (try simp only [Act.put, List.setIfInBounds_toArray, List.set_cons_zero, List.set_cons_succ])
          go_cut [14] (fun v14 wc => ∃ (kq : Nat) (x14_18 : Int), v14 = .int .i64 x14_18 ∧ Aside0 (laws_FnTurned.j1 kq t190 t191 t192 t197 t191 t192 x14_18 = some r) ∧ Aside0 (kq ≤ kj6) ∧ Aside0 (Below w.heap.size w wc))
          case first =>
            have H := HC19.out
            clear HC19
            by_cases c20 : t190 > 1
            · rw [if_pos c20] at H
              have c20b0 : decide (1 < t190) = true := decide_eq_true c20
              clear c20
              (first | rw [c20b0] | (simp only [i64_w, i32_w]; rw [c20b0]) | skip)
              have H' := Aside0.mk H
              clear H
              go_wp2
              go_meet
              case rel => exact ⟨_, (9), (by first | rfl | (simp; done) | (simp [*]; done)), H', ⟨by have := HJ6.out; first | omega | exact Nat.le_refl _⟩, ⟨by repeat (first | (with_reducible first | exact HB.out | apply below_alloc | apply pw_below_drewN | apply below_drew1) | exact HB.out)⟩⟩
            · rw [if_neg c20] at H
              have c20b0 : decide (1 < t190) = false := decide_eq_false c20
              clear c20
              (first | rw [c20b0] | (simp only [i64_w, i32_w]; rw [c20b0]) | skip)
              have H' := Aside0.mk H
              clear H
              go_wp2
              go_meet
              case rel => exact ⟨_, (8), (by first | rfl | (simp; done) | (simp [*]; done)), H', ⟨by have := HJ6.out; first | omega | exact Nat.le_refl _⟩, ⟨by repeat (first | (with_reducible first | exact HB.out | apply below_alloc | apply pw_below_drewN | apply below_drew1) | exact HB.out)⟩⟩
          case rest =>
            clear HC19
            try clear c1
            try clear c2
            try clear p2
            try clear c3
            try clear c4
            try clear c9
            try clear c9b0
            try clear c9b1
            try clear c10
            try clear c10b0
            try clear c10b1
            try clear c11
            try clear c11b0
            try clear c12
            try clear c12b0
            try clear c13
            try clear c13b0
            try clear c14
            try clear c14b0
            try clear c15
            try clear c15b0
            try clear c16
            try clear c17
            try clear c17b0
            try clear c17b1
            try clear c20
            try clear c20b0
            try clear p2
            obtain ⟨kq, x14_18, rfl, HA, HJ18, HB⟩ := hcut
            cases kq with
            | zero => exact absurd HA.out (by simp [laws_FnTurned.j1])
            | succ kj18 =>
              have H := HA.out
              clear HA
              simp only [laws_FnTurned.j1] at H
              have H' := Aside0.mk H
              clear H
              go_wp2
              go_loopg [12, 13, 15] kj18 (fun kq v12 v13 v15 w' => ∃ (x12_3 : Int) (x13_3 : Int) (x15_3 : Int), v12 = .int .i64 x12_3 ∧ v13 = .int .i64 x13_3 ∧ v15 = .int .i64 x15_3 ∧ Aside0 (laws_FnTurned.l0 kq t190 t191 t192 t197 x12_3 x13_3 x14_18 x15_3 = some r) ∧ Aside0 (kq ≤ kj18) ∧ Aside0 (Below w.heap.size w w'))
              case atStart => exact ⟨(t191), (t192), (0), (by first | rfl | (simp; done) | (simp [*]; done)), (by first | rfl | (simp; done) | (simp [*]; done)), (by first | rfl | (simp; done) | (simp [*]; done)), H', ⟨Nat.le_refl _⟩, ⟨by repeat (first | (with_reducible first | exact HB.out | apply below_alloc | apply pw_below_drewN | apply below_drew1) | exact HB.out)⟩⟩
              case round =>
                clear H'
                try clear c1
                try clear c2
                try clear p2
                try clear c3
                try clear c4
                try clear c9
                try clear c9b0
                try clear c9b1
                try clear c10
                try clear c10b0
                try clear c10b1
                try clear c11
                try clear c11b0
                try clear c12
                try clear c12b0
                try clear c13
                try clear c13b0
                try clear c14
                try clear c14b0
                try clear c15
                try clear c15b0
                try clear c16
                try clear c17
                try clear c17b0
                try clear c17b1
                try clear c20
                try clear c20b0
                try clear p2
                obtain ⟨x12_3, x13_3, x15_3, rfl, rfl, rfl, HA, HK3, HB⟩ := hrel
                cases gk with
                | zero => exact absurd HA.out (by simp [laws_FnTurned.l0])
                | succ k3 =>
                  have H := HA.out
                  clear HA
                  simp only [laws_FnTurned.l0] at H
                  by_cases c21 : x15_3 < x14_18
                  · rw [if_pos c21] at H
                    have c21b0 : decide (x15_3 < x14_18) = true := decide_eq_true c21
                    clear c21
                    replace H := Option.bind_eq_some_iff.mp H
                    obtain ⟨⟨t199, t200⟩, A220, H⟩ := H
                    replace H : (laws_FnTurned.l0 k3 t190 t191 t192 t197 t199 t200 x14_18 (wrap64 (x15_3 + 1))) = some r := H
                    have A22 := Aside0.mk A220
                    clear A220
                    have H' := Aside0.mk H
                    clear H
                    go_wp2_with (first | ((with_reducible refine gate_callee (f := 39) rfl ?_); refine goesL_ (some 101) rfl rfl Try.func39 (by kernel_rfl) rfl #[.int .i64 t190, .int .i64 x12_3, .int .i64 x13_3] rfl (by (try simp only [List.map_toArray, List.map_cons, List.map_nil]); first | done | rfl | (simp only [List.length_drop, List.length_take]; rfl)) ?_; (with_reducible refine (impl_Turned.calls k3 t190 x12_3 x13_3 t199 t200 _ A22.out).mono ?_); rintro e w' ⟨rfl, ⟨nd, rfl⟩⟩; refine ⟨_, rfl, ?_⟩))
                    go_roundg k3
                    case measure => have := HJ6.out; have := HJ18.out; have := HK3.out; omega
                    case rel => exact ⟨(t199), (t200), (wrap64 (x15_3 + 1)), (by first | rfl | (simp; done) | (simp [*]; done)), (by first | rfl | (simp; done) | (simp [*]; done)), (by first | rfl | (simp; done) | (simp [*]; done)), H', ⟨by have := HJ6.out; have := HJ18.out; have := HK3.out; omega⟩, ⟨by repeat (first | (with_reducible first | exact HB.out | apply below_alloc | apply pw_below_drewN | apply below_drew1) | exact HB.out)⟩⟩
                  · rw [if_neg c21] at H
                    have c21b0 : decide (x15_3 < x14_18) = false := decide_eq_false c21
                    clear c21
                    by_cases c23 : t197 = t191
                    · rw [if_pos c23] at H
                      have c23b0 : (t197 == t191) = true := beq_iff_eq.mpr c23
                      have c23b1 : (t197 != t191) = false := bne_eq_false_iff_eq.mpr c23
                      clear c23
                      by_cases c24 : x12_3 = t191
                      · rw [if_pos c24] at H
                        have c24b0 : (x12_3 == t191) = true := beq_iff_eq.mpr c24
                        have c24b1 : (x12_3 != t191) = false := bne_eq_false_iff_eq.mpr c24
                        clear c24
                        by_cases c25 : t190 < 2
                        · rw [if_pos c25] at H
                          have c25b0 : decide (t190 < 2) = true := decide_eq_true c25
                          clear c25
                          obtain rfl := Option.some.inj H
                          go_wp2
                          go_ret
                          exact ⟨by first | rfl | (simp [errW_none, errW_some] <;> rfl) | (simp [*, errW_none, errW_some] <;> rfl), by repeat (first | (with_reducible first | exact HB.out | apply below_alloc | apply pw_below_drewN | apply below_drew1) | exact HB.out)⟩
                        · rw [if_neg c25] at H
                          have c25b0 : decide (t190 < 2) = false := decide_eq_false c25
                          clear c25
                          obtain rfl := Option.some.inj H
                          go_wp2
                          go_ret
                          exact ⟨by first | rfl | (simp [errW_none, errW_some] <;> rfl) | (simp [*, errW_none, errW_some] <;> rfl), by repeat (first | (with_reducible first | exact HB.out | apply below_alloc | apply pw_below_drewN | apply below_drew1) | exact HB.out)⟩
                      · rw [if_neg c24] at H
                        have c24b0 : (x12_3 == t191) = false := beq_eq_false_iff_ne.mpr c24
                        have c24b1 : (x12_3 != t191) = true := bne_iff_ne.mpr c24
                        obtain rfl := Option.some.inj H
                        go_wp2
                        go_ret
                        exact ⟨by first | rfl | (simp [errW_none, errW_some] <;> rfl) | (simp [*, errW_none, errW_some] <;> rfl), by repeat (first | (with_reducible first | exact HB.out | apply below_alloc | apply pw_below_drewN | apply below_drew1) | exact HB.out)⟩
                    · rw [if_neg c23] at H
                      have c23b0 : (t197 == t191) = false := beq_eq_false_iff_ne.mpr c23
                      have c23b1 : (t197 != t191) = true := bne_iff_ne.mpr c23
                      obtain rfl := Option.some.inj H
                      go_wp2
                      go_ret
                      exact ⟨by first | rfl | (simp [errW_none, errW_some] <;> rfl) | (simp [*, errW_none, errW_some] <;> rfl), by repeat (first | (with_reducible first | exact HB.out | apply below_alloc | apply pw_below_drewN | apply below_drew1) | exact HB.out)⟩

/-- THE ONE PURE STATEMENT of laws_FnTurned: yours. -/
def laws_FnTurned.Pure : Prop := ∀ (l0 : List Int), l0.length ≤ maxLen → l0.length * 1 ≤ 140737488351232 → (∀ x ∈ l0, (Lit.int .u8 x).wf = true) → ∃ k, laws_FnTurned.f k l0 = some true
theorem laws_FnTurned.walk (P : laws_FnTurned.Pure) (a0 : Option Addr) (len0 cap0 : Nat) (z0 : List Int) (w : World) (w0 : (a0 = none ∧ len0 = 0 ∧ cap0 = 0 ∧ z0 = []) ∨ ∃ x, a0 = some x ∧ len0 ≤ cap0 ∧ cap0 ≤ maxLen ∧ z0.length = cap0 ∧ (∀ i, i < z0.length → w.cell? (x.add i) = some (.int .u8 (z0.getD i 0))) ∧ ∀ n ∈ z0, (Lit.int .u8 n).wf = true) (y0 : len0 * 1 ≤ 140737488351232) :
    Calls Try.prog 12 #[.slice a0 len0 cap0] w fun e w' => e = .returned (.bool true) ∧ Below w.heap.size w w' := by
  obtain ⟨l0, rfl, hr0, hm0, hw0, hc0⟩ := ReadsInt.ofRowC w0
  obtain ⟨k, h⟩ := P l0 hm0 y0 hw0
  refine (laws_FnTurned.calls k _ _ l0 true w (Kd.C_of_reads (d := (0 : Int)) (h1 := fun _ => rfl) hr0) hc0 h).mono ?_
  rintro e w' ⟨rfl, hd⟩
  exact ⟨rfl, hd⟩

end Go.Proofs.Ytahibkfcohajcaa.PFnTurned
