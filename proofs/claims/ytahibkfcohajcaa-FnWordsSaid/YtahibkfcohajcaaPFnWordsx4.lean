-- PRINTED BY print.sh 35421559b90ae4d0a3588c463048766b98c2df88dd9212a6774a882060cdf62d: not written by this session
import Derived.Test.YtahibkfcohajcaaPFnWordsx0
import Derived.Test.YtahibkfcohajcaaPFnWordsx1
import Derived.Test.YtahibkfcohajcaaPFnWordsx2
import Derived.Test.YtahibkfcohajcaaPFnWordsx3
namespace Go.Proofs.Ytahibkfcohajcaa.PFnWords
open Go.RowKit Go.Proofs.YtahibkfcohajcaaW.PrintWords Go.Proofs.YtahibkfcohajcaaW.PrintLast Go.Proofs.YtahibkfcohajcaaW.PrintMore
attribute [local go_sem] max2_int min2_int max_two min_two max_three min_three max_four min_four   -- for this text's walks alone
set_option linter.unusedVariables false
set_option linter.unusedSimpArgs false

/-! ### laws_FnWords: function 15 -/
mutual
def laws_FnWords.j0 : Nat → Int → Int → Int → Int → Int → Int → Int → Int → Int → Bool → Option (Bool)
  | 0, _, _, _, _, _, _, _, _, _, _ => none
  | k + 1, x3, x4, x5, x6, x7, x10, x11, x12, x13, x74 => if x74 = true then (some false) else (if x3 ≥ 0 then (if x3 ≤ 65535 then (if x4 ≥ 0 then (if x4 ≤ 65535 then (if x5 ≥ 0 then (if x5 ≤ 255 then (if (wrap64 (x6 + (wrap64 (65536 * (Int.tmod (wrap64 (Int.tdiv x7 16)) 2))))) = (wrap64 (x3 + x4)) then (laws_FnWords.j1 k x10 x11 x12 x13 ((decide (x7 ≥ 128)) != (decide (x5 ≥ 128)))) else (laws_FnWords.j1 k x10 x11 x12 x13 true)) else (laws_FnWords.j1 k x10 x11 x12 x13 false)) else (laws_FnWords.j1 k x10 x11 x12 x13 false)) else (laws_FnWords.j1 k x10 x11 x12 x13 false)) else (laws_FnWords.j1 k x10 x11 x12 x13 false)) else (laws_FnWords.j1 k x10 x11 x12 x13 false)) else (laws_FnWords.j1 k x10 x11 x12 x13 false))
def laws_FnWords.j1 : Nat → Int → Int → Int → Int → Bool → Option (Bool)
  | 0, _, _, _, _, _ => none
  | k + 1, x10, x11, x12, x13, x115 => if x115 = true then (some false) else (if x10 < 0 then (laws_FnWords.j2 k x10 x11 x12 x13 true) else (if x10 > 65535 then (laws_FnWords.j2 k x10 x11 x12 x13 true) else (if x11 < 0 then (laws_FnWords.j2 k x10 x11 x12 x13 true) else (laws_FnWords.j2 k x10 x11 x12 x13 (decide (x11 > 255))))))
def laws_FnWords.j2 : Nat → Int → Int → Int → Int → Bool → Option (Bool)
  | 0, _, _, _, _, _ => none
  | k + 1, x10, x11, x12, x13, x129 => if x129 = true then (some true) else ((impl_Alu.f k 0 (Int.tmod x10 256) x11 0).bind fun bt234 => ((impl_SignedOf.f x11).bind fun t236 => (if (Int.tmod (wrap64 ((wrap64 (x12 - x10)) - t236)) 65536) = 0 then (some (x13 == (Int.tmod bt234.2 128))) else (some false))))
end
def laws_FnWords.f (k : Nat) (l0 : List Int) : Option (Bool) := (laws_big.f l0).bind fun t220 => (if t220 = true then (some true) else ((spec_DrawAddWords.f k l0).bind fun bt221 => ((impl_AddWords.f k bt221.1 bt221.2.1 bt221.2.2).bind fun bt224 => ((spec_AddWords.f bt221.1 bt221.2.1 bt221.2.2).bind fun bt226 => ((spec_DrawAddSigned.f k l0).bind fun bt228 => ((impl_AddSigned.f k bt228.1 bt228.2).bind fun bt230 => ((spec_AddSigned.f k bt228.1 bt228.2).bind fun bt232 => (if bt224.1 = bt226.1 then (if bt224.2 = bt226.2 then (if bt230.1 = bt232.1 then (laws_FnWords.j0 k bt221.1 bt221.2.1 bt221.2.2 bt224.1 bt224.2 bt228.1 bt228.2 bt230.1 bt230.2 (bt230.2 != bt232.2)) else (laws_FnWords.j0 k bt221.1 bt221.2.1 bt221.2.2 bt224.1 bt224.2 bt228.1 bt228.2 bt230.1 bt230.2 true)) else (laws_FnWords.j0 k bt221.1 bt221.2.1 bt221.2.2 bt224.1 bt224.2 bt228.1 bt228.2 bt230.1 bt230.2 true)) else (laws_FnWords.j0 k bt221.1 bt221.2.1 bt221.2.2 bt224.1 bt224.2 bt228.1 bt228.2 bt230.1 bt230.2 true)))))))))
theorem laws_FnWords.mono_l : ∀ k, (∀ y0 y1 y2 y3 y4 y5 y6 y7 y8 y9, LeO (laws_FnWords.j0 k y0 y1 y2 y3 y4 y5 y6 y7 y8 y9) (laws_FnWords.j0 (k + 1) y0 y1 y2 y3 y4 y5 y6 y7 y8 y9)) ∧ (∀ y0 y1 y2 y3 y4, LeO (laws_FnWords.j1 k y0 y1 y2 y3 y4) (laws_FnWords.j1 (k + 1) y0 y1 y2 y3 y4)) ∧ (∀ y0 y1 y2 y3 y4, LeO (laws_FnWords.j2 k y0 y1 y2 y3 y4) (laws_FnWords.j2 (k + 1) y0 y1 y2 y3 y4))
  | 0 => ⟨fun _ _ _ _ _ _ _ _ _ _ r h => by simp [laws_FnWords.j0] at h, fun _ _ _ _ _ r h => by simp [laws_FnWords.j1] at h, fun _ _ _ _ _ r h => by simp [laws_FnWords.j2] at h⟩
  | k + 1 => by
    obtain ⟨ih0, ih1, ih2⟩ := laws_FnWords.mono_l k
    refine ⟨?_, ?_, ?_⟩
    · intro y0 y1 y2 y3 y4 y5 y6 y7 y8 y9
      unfold laws_FnWords.j0
      repeat' first
      | (with_reducible exact ih0 _ _ _ _ _ _ _ _ _ _)
      | (with_reducible exact ih1 _ _ _ _ _)
      | (with_reducible exact ih2 _ _ _ _ _)
      | (with_reducible exact impl_AddSigned.mono _ _ _)
      | (with_reducible exact impl_AddWords.mono _ _ _ _)
      | (with_reducible exact impl_Alu.mono _ _ _ _ _)
      | (with_reducible exact spec_AddSigned.mono _ _ _)
      | (with_reducible exact spec_DrawAddSigned.mono _ _)
      | (with_reducible exact spec_DrawAddWords.mono _ _)
      | (with_reducible exact LeO.refl _)
      | (with_reducible exact LeO.none _)
      | (with_reducible refine LeO.ite ?_ ?_)
      | (with_reducible refine LeO.bind ?_ (fun _ => ?_))
      | exact ih0 _ _ _ _ _ _ _ _ _ _
      | exact ih1 _ _ _ _ _
      | exact ih2 _ _ _ _ _
      | exact impl_AddSigned.mono _ _ _
      | exact impl_AddWords.mono _ _ _ _
      | exact impl_Alu.mono _ _ _ _ _
      | exact spec_AddSigned.mono _ _ _
      | exact spec_DrawAddSigned.mono _ _
      | exact spec_DrawAddWords.mono _ _
      | exact LeO.none _
      | refine LeO.ite ?_ ?_
      | refine LeO.bind ?_ (fun _ => ?_)
    · intro y0 y1 y2 y3 y4
      unfold laws_FnWords.j1
      repeat' first
      | (with_reducible exact ih0 _ _ _ _ _ _ _ _ _ _)
      | (with_reducible exact ih1 _ _ _ _ _)
      | (with_reducible exact ih2 _ _ _ _ _)
      | (with_reducible exact impl_AddSigned.mono _ _ _)
      | (with_reducible exact impl_AddWords.mono _ _ _ _)
      | (with_reducible exact impl_Alu.mono _ _ _ _ _)
      | (with_reducible exact spec_AddSigned.mono _ _ _)
      | (with_reducible exact spec_DrawAddSigned.mono _ _)
      | (with_reducible exact spec_DrawAddWords.mono _ _)
      | (with_reducible exact LeO.refl _)
      | (with_reducible exact LeO.none _)
      | (with_reducible refine LeO.ite ?_ ?_)
      | (with_reducible refine LeO.bind ?_ (fun _ => ?_))
      | exact ih0 _ _ _ _ _ _ _ _ _ _
      | exact ih1 _ _ _ _ _
      | exact ih2 _ _ _ _ _
      | exact impl_AddSigned.mono _ _ _
      | exact impl_AddWords.mono _ _ _ _
      | exact impl_Alu.mono _ _ _ _ _
      | exact spec_AddSigned.mono _ _ _
      | exact spec_DrawAddSigned.mono _ _
      | exact spec_DrawAddWords.mono _ _
      | exact LeO.none _
      | refine LeO.ite ?_ ?_
      | refine LeO.bind ?_ (fun _ => ?_)
    · intro y0 y1 y2 y3 y4
      unfold laws_FnWords.j2
      repeat' first
      | (with_reducible exact ih0 _ _ _ _ _ _ _ _ _ _)
      | (with_reducible exact ih1 _ _ _ _ _)
      | (with_reducible exact ih2 _ _ _ _ _)
      | (with_reducible exact impl_AddSigned.mono _ _ _)
      | (with_reducible exact impl_AddWords.mono _ _ _ _)
      | (with_reducible exact impl_Alu.mono _ _ _ _ _)
      | (with_reducible exact spec_AddSigned.mono _ _ _)
      | (with_reducible exact spec_DrawAddSigned.mono _ _)
      | (with_reducible exact spec_DrawAddWords.mono _ _)
      | (with_reducible exact LeO.refl _)
      | (with_reducible exact LeO.none _)
      | (with_reducible refine LeO.ite ?_ ?_)
      | (with_reducible refine LeO.bind ?_ (fun _ => ?_))
      | exact ih0 _ _ _ _ _ _ _ _ _ _
      | exact ih1 _ _ _ _ _
      | exact ih2 _ _ _ _ _
      | exact impl_AddSigned.mono _ _ _
      | exact impl_AddWords.mono _ _ _ _
      | exact impl_Alu.mono _ _ _ _ _
      | exact spec_AddSigned.mono _ _ _
      | exact spec_DrawAddSigned.mono _ _
      | exact spec_DrawAddWords.mono _ _
      | exact LeO.none _
      | refine LeO.ite ?_ ?_
      | refine LeO.bind ?_ (fun _ => ?_)
theorem laws_FnWords.mono : ∀ a0 k, LeO (laws_FnWords.f k a0) (laws_FnWords.f (k + 1) a0) := by
  intro a0 k
  obtain ⟨ih0, ih1, ih2⟩ := laws_FnWords.mono_l k
  unfold laws_FnWords.f
  repeat' first
      | (with_reducible exact ih0 _ _ _ _ _ _ _ _ _ _)
      | (with_reducible exact ih1 _ _ _ _ _)
      | (with_reducible exact ih2 _ _ _ _ _)
      | (with_reducible exact impl_AddSigned.mono _ _ _)
      | (with_reducible exact impl_AddWords.mono _ _ _ _)
      | (with_reducible exact impl_Alu.mono _ _ _ _ _)
      | (with_reducible exact spec_AddSigned.mono _ _ _)
      | (with_reducible exact spec_DrawAddSigned.mono _ _)
      | (with_reducible exact spec_DrawAddWords.mono _ _)
      | (with_reducible exact LeO.refl _)
      | (with_reducible exact LeO.none _)
      | (with_reducible refine LeO.ite ?_ ?_)
      | (with_reducible refine LeO.bind ?_ (fun _ => ?_))
      | exact ih0 _ _ _ _ _ _ _ _ _ _
      | exact ih1 _ _ _ _ _
      | exact ih2 _ _ _ _ _
      | exact impl_AddSigned.mono _ _ _
      | exact impl_AddWords.mono _ _ _ _
      | exact impl_Alu.mono _ _ _ _ _
      | exact spec_AddSigned.mono _ _ _
      | exact spec_DrawAddSigned.mono _ _
      | exact spec_DrawAddWords.mono _ _
      | exact LeO.none _
      | refine LeO.ite ?_ ?_
      | refine LeO.bind ?_ (fun _ => ?_)
set_option maxHeartbeats 8000000 in
set_option maxRecDepth 100000 in
theorem laws_FnWords.calls (k : Nat) (A0 : Option Addr) (c0 : Nat) (l0 : List Int) (r : Bool) (w : World) (hr0 : Kd.C (Kd.int .u8) w A0 l0.length l0) (hc0 : l0.length ≤ c0) (h : laws_FnWords.f k l0 = some r) :
    Calls Try.prog 15 #[.slice A0 l0.length c0] w fun e w' => e = .returned (.bool r) ∧ Below w.heap.size w w' := by
  have HR0 := Aside0.mk hr0
  have HC0 := Aside0.mk hc0
  clear hr0 hc0
  have HB := Aside0.mk (Below.refl w.heap.size w)
  have H : ((laws_big.f l0).bind fun t220 => (if t220 = true then (some true) else ((spec_DrawAddWords.f k l0).bind fun bt221 => ((impl_AddWords.f k bt221.1 bt221.2.1 bt221.2.2).bind fun bt224 => ((spec_AddWords.f bt221.1 bt221.2.1 bt221.2.2).bind fun bt226 => ((spec_DrawAddSigned.f k l0).bind fun bt228 => ((impl_AddSigned.f k bt228.1 bt228.2).bind fun bt230 => ((spec_AddSigned.f k bt228.1 bt228.2).bind fun bt232 => (if bt224.1 = bt226.1 then (if bt224.2 = bt226.2 then (if bt230.1 = bt232.1 then (laws_FnWords.j0 k bt221.1 bt221.2.1 bt221.2.2 bt224.1 bt224.2 bt228.1 bt228.2 bt230.1 bt230.2 (bt230.2 != bt232.2)) else (laws_FnWords.j0 k bt221.1 bt221.2.1 bt221.2.2 bt224.1 bt224.2 bt228.1 bt228.2 bt230.1 bt230.2 true)) else (laws_FnWords.j0 k bt221.1 bt221.2.1 bt221.2.2 bt224.1 bt224.2 bt228.1 bt228.2 bt230.1 bt230.2 true)) else (laws_FnWords.j0 k bt221.1 bt221.2.1 bt221.2.2 bt224.1 bt224.2 bt228.1 bt228.2 bt230.1 bt230.2 true)))))))))) = some r := h
  clear h
  replace H := Option.bind_eq_some_iff.mp H
  obtain ⟨t220, A20, H⟩ := H
  replace H : (if t220 = true then (some true) else ((spec_DrawAddWords.f k l0).bind fun bt221 => ((impl_AddWords.f k bt221.1 bt221.2.1 bt221.2.2).bind fun bt224 => ((spec_AddWords.f bt221.1 bt221.2.1 bt221.2.2).bind fun bt226 => ((spec_DrawAddSigned.f k l0).bind fun bt228 => ((impl_AddSigned.f k bt228.1 bt228.2).bind fun bt230 => ((spec_AddSigned.f k bt228.1 bt228.2).bind fun bt232 => (if bt224.1 = bt226.1 then (if bt224.2 = bt226.2 then (if bt230.1 = bt232.1 then (laws_FnWords.j0 k bt221.1 bt221.2.1 bt221.2.2 bt224.1 bt224.2 bt228.1 bt228.2 bt230.1 bt230.2 (bt230.2 != bt232.2)) else (laws_FnWords.j0 k bt221.1 bt221.2.1 bt221.2.2 bt224.1 bt224.2 bt228.1 bt228.2 bt230.1 bt230.2 true)) else (laws_FnWords.j0 k bt221.1 bt221.2.1 bt221.2.2 bt224.1 bt224.2 bt228.1 bt228.2 bt230.1 bt230.2 true)) else (laws_FnWords.j0 k bt221.1 bt221.2.1 bt221.2.2 bt224.1 bt224.2 bt228.1 bt228.2 bt230.1 bt230.2 true))))))))) = some r := H
  have A2 := Aside0.mk A20
  clear A20
  by_cases c3 : t220 = true
  · subst c3
    have H1 : (some true) = some r := by rw [if_pos rfl] at H; exact H
    clear H
    have H := H1
    clear H1
    obtain rfl := Option.some.inj H
    go_enter Try.func15, Try.ntmps15
    go_wp2_with (first | ((with_reducible refine gate_callee (f := 16) rfl ?_); refine goesL_ (some 19) rfl rfl Try.func16 (by kernel_rfl) rfl #[.slice A0 l0.length c0] rfl (by (try simp only [List.map_toArray, List.map_cons, List.map_nil]); first | done | rfl | (simp only [List.length_drop, List.length_take]; rfl)) ?_; (with_reducible refine (laws_big.calls _ _ l0 true _ ?side1 ?side2 A2.out).mono ?_); (case side1 => repeat (first | exact HR0.out | (with_reducible refine Kd.C_alloc ?_ _) | (with_reducible refine Kd.C_drewN ?_ _) | (with_reducible refine Kd.C_drew ?_))); (case side2 => exact HC0.out); rintro e w' ⟨rfl, ⟨nd, rfl⟩⟩; refine ⟨_, rfl, ?_⟩))
    go_ret
    exact ⟨by first | rfl | (simp [errW_none, errW_some] <;> rfl) | (simp [*, errW_none, errW_some] <;> rfl), by repeat (first | (with_reducible first | exact HB.out | apply below_alloc | apply pw_below_drewN | apply below_drew1) | exact HB.out)⟩
  · replace c3 := Bool.eq_false_iff.mpr c3
    subst c3
    have H1 : ((spec_DrawAddWords.f k l0).bind fun bt221 => ((impl_AddWords.f k bt221.1 bt221.2.1 bt221.2.2).bind fun bt224 => ((spec_AddWords.f bt221.1 bt221.2.1 bt221.2.2).bind fun bt226 => ((spec_DrawAddSigned.f k l0).bind fun bt228 => ((impl_AddSigned.f k bt228.1 bt228.2).bind fun bt230 => ((spec_AddSigned.f k bt228.1 bt228.2).bind fun bt232 => (if bt224.1 = bt226.1 then (if bt224.2 = bt226.2 then (if bt230.1 = bt232.1 then (laws_FnWords.j0 k bt221.1 bt221.2.1 bt221.2.2 bt224.1 bt224.2 bt228.1 bt228.2 bt230.1 bt230.2 (bt230.2 != bt232.2)) else (laws_FnWords.j0 k bt221.1 bt221.2.1 bt221.2.2 bt224.1 bt224.2 bt228.1 bt228.2 bt230.1 bt230.2 true)) else (laws_FnWords.j0 k bt221.1 bt221.2.1 bt221.2.2 bt224.1 bt224.2 bt228.1 bt228.2 bt230.1 bt230.2 true)) else (laws_FnWords.j0 k bt221.1 bt221.2.1 bt221.2.2 bt224.1 bt224.2 bt228.1 bt228.2 bt230.1 bt230.2 true)))))))) = some r := by rw [if_neg (show ¬ (false = true) by decide)] at H; exact H
    clear H
    have H := H1
    clear H1
    replace H := Option.bind_eq_some_iff.mp H
    obtain ⟨⟨t221, t222, t223⟩, A40, H⟩ := H
    replace H : ((impl_AddWords.f k t221 t222 t223).bind fun bt224 => ((spec_AddWords.f t221 t222 t223).bind fun bt226 => ((spec_DrawAddSigned.f k l0).bind fun bt228 => ((impl_AddSigned.f k bt228.1 bt228.2).bind fun bt230 => ((spec_AddSigned.f k bt228.1 bt228.2).bind fun bt232 => (if bt224.1 = bt226.1 then (if bt224.2 = bt226.2 then (if bt230.1 = bt232.1 then (laws_FnWords.j0 k t221 t222 t223 bt224.1 bt224.2 bt228.1 bt228.2 bt230.1 bt230.2 (bt230.2 != bt232.2)) else (laws_FnWords.j0 k t221 t222 t223 bt224.1 bt224.2 bt228.1 bt228.2 bt230.1 bt230.2 true)) else (laws_FnWords.j0 k t221 t222 t223 bt224.1 bt224.2 bt228.1 bt228.2 bt230.1 bt230.2 true)) else (laws_FnWords.j0 k t221 t222 t223 bt224.1 bt224.2 bt228.1 bt228.2 bt230.1 bt230.2 true))))))) = some r := H
    have A4 := Aside0.mk A40
    clear A40
    replace H := Option.bind_eq_some_iff.mp H
    obtain ⟨⟨t224, t225⟩, A50, H⟩ := H
    replace H : ((spec_AddWords.f t221 t222 t223).bind fun bt226 => ((spec_DrawAddSigned.f k l0).bind fun bt228 => ((impl_AddSigned.f k bt228.1 bt228.2).bind fun bt230 => ((spec_AddSigned.f k bt228.1 bt228.2).bind fun bt232 => (if t224 = bt226.1 then (if t225 = bt226.2 then (if bt230.1 = bt232.1 then (laws_FnWords.j0 k t221 t222 t223 t224 t225 bt228.1 bt228.2 bt230.1 bt230.2 (bt230.2 != bt232.2)) else (laws_FnWords.j0 k t221 t222 t223 t224 t225 bt228.1 bt228.2 bt230.1 bt230.2 true)) else (laws_FnWords.j0 k t221 t222 t223 t224 t225 bt228.1 bt228.2 bt230.1 bt230.2 true)) else (laws_FnWords.j0 k t221 t222 t223 t224 t225 bt228.1 bt228.2 bt230.1 bt230.2 true)))))) = some r := H
    have A5 := Aside0.mk A50
    clear A50
    replace H := Option.bind_eq_some_iff.mp H
    obtain ⟨⟨t226, t227⟩, A60, H⟩ := H
    replace H : ((spec_DrawAddSigned.f k l0).bind fun bt228 => ((impl_AddSigned.f k bt228.1 bt228.2).bind fun bt230 => ((spec_AddSigned.f k bt228.1 bt228.2).bind fun bt232 => (if t224 = t226 then (if t225 = t227 then (if bt230.1 = bt232.1 then (laws_FnWords.j0 k t221 t222 t223 t224 t225 bt228.1 bt228.2 bt230.1 bt230.2 (bt230.2 != bt232.2)) else (laws_FnWords.j0 k t221 t222 t223 t224 t225 bt228.1 bt228.2 bt230.1 bt230.2 true)) else (laws_FnWords.j0 k t221 t222 t223 t224 t225 bt228.1 bt228.2 bt230.1 bt230.2 true)) else (laws_FnWords.j0 k t221 t222 t223 t224 t225 bt228.1 bt228.2 bt230.1 bt230.2 true))))) = some r := H
    have A6 := Aside0.mk A60
    clear A60
    replace H := Option.bind_eq_some_iff.mp H
    obtain ⟨⟨t228, t229⟩, A70, H⟩ := H
    replace H : ((impl_AddSigned.f k t228 t229).bind fun bt230 => ((spec_AddSigned.f k t228 t229).bind fun bt232 => (if t224 = t226 then (if t225 = t227 then (if bt230.1 = bt232.1 then (laws_FnWords.j0 k t221 t222 t223 t224 t225 t228 t229 bt230.1 bt230.2 (bt230.2 != bt232.2)) else (laws_FnWords.j0 k t221 t222 t223 t224 t225 t228 t229 bt230.1 bt230.2 true)) else (laws_FnWords.j0 k t221 t222 t223 t224 t225 t228 t229 bt230.1 bt230.2 true)) else (laws_FnWords.j0 k t221 t222 t223 t224 t225 t228 t229 bt230.1 bt230.2 true)))) = some r := H
    have A7 := Aside0.mk A70
    clear A70
    replace H := Option.bind_eq_some_iff.mp H
    obtain ⟨⟨t230, t231⟩, A80, H⟩ := H
    replace H : ((spec_AddSigned.f k t228 t229).bind fun bt232 => (if t224 = t226 then (if t225 = t227 then (if t230 = bt232.1 then (laws_FnWords.j0 k t221 t222 t223 t224 t225 t228 t229 t230 t231 (t231 != bt232.2)) else (laws_FnWords.j0 k t221 t222 t223 t224 t225 t228 t229 t230 t231 true)) else (laws_FnWords.j0 k t221 t222 t223 t224 t225 t228 t229 t230 t231 true)) else (laws_FnWords.j0 k t221 t222 t223 t224 t225 t228 t229 t230 t231 true))) = some r := H
    have A8 := Aside0.mk A80
    clear A80
    replace H := Option.bind_eq_some_iff.mp H
    obtain ⟨⟨t232, t233⟩, A90, H⟩ := H
    replace H : (if t224 = t226 then (if t225 = t227 then (if t230 = t232 then (laws_FnWords.j0 k t221 t222 t223 t224 t225 t228 t229 t230 t231 (t231 != t233)) else (laws_FnWords.j0 k t221 t222 t223 t224 t225 t228 t229 t230 t231 true)) else (laws_FnWords.j0 k t221 t222 t223 t224 t225 t228 t229 t230 t231 true)) else (laws_FnWords.j0 k t221 t222 t223 t224 t225 t228 t229 t230 t231 true)) = some r := H
    have A9 := Aside0.mk A90
    clear A90
    have HC10 := Aside0.mk H
    clear H
    go_enter Try.func15, Try.ntmps15
    go_upto_region 9 with (first | ((with_reducible refine gate_callee (f := 16) rfl ?_); refine goesL_ (some 19) rfl rfl Try.func16 (by kernel_rfl) rfl #[.slice A0 l0.length c0] rfl (by (try simp only [List.map_toArray, List.map_cons, List.map_nil]); first | done | rfl | (simp only [List.length_drop, List.length_take]; rfl)) ?_; (with_reducible refine (laws_big.calls _ _ l0 false _ ?side1 ?side2 A2.out).mono ?_); (case side1 => repeat (first | exact HR0.out | (with_reducible refine Kd.C_alloc ?_ _) | (with_reducible refine Kd.C_drewN ?_ _) | (with_reducible refine Kd.C_drew ?_))); (case side2 => exact HC0.out); rintro e w' ⟨rfl, ⟨nd, rfl⟩⟩; refine ⟨_, rfl, ?_⟩) | ((with_reducible refine gate_callee (f := 47) rfl ?_); refine goesL_ (some 22) rfl rfl Try.func47 (by kernel_rfl) rfl #[.slice A0 l0.length c0] rfl (by (try simp only [List.map_toArray, List.map_cons, List.map_nil]); first | done | rfl | (simp only [List.length_drop, List.length_take]; rfl)) ?_; (with_reducible refine (spec_DrawAddWords.calls k _ _ l0 t221 t222 t223 _ ?side1 ?side2 A4.out).mono ?_); (case side1 => repeat (first | exact HR0.out | (with_reducible refine Kd.C_alloc ?_ _) | (with_reducible refine Kd.C_drewN ?_ _) | (with_reducible refine Kd.C_drew ?_))); (case side2 => exact HC0.out); rintro e w11 ⟨rfl, hb⟩; refine ⟨_, rfl, ?_⟩; have n0_ := Aside0.mk (below_step (by repeat (first | (with_reducible first | exact HB.out | apply below_alloc | apply pw_below_drewN | apply below_drew1) | exact HB.out)) hb); clear HB; have HB := n0_; clear n0_; (try clear hb); (try clear hb2); (try clear hk); (try clear hi)) | ((with_reducible refine gate_callee (f := 48) rfl ?_); refine goesL_ (some 30) rfl rfl Try.func48 (by kernel_rfl) rfl #[.int .i64 t221, .int .i64 t222, .int .i64 t223] rfl (by (try simp only [List.map_toArray, List.map_cons, List.map_nil]); first | done | rfl | (simp only [List.length_drop, List.length_take]; rfl)) ?_; (with_reducible refine (impl_AddWords.calls k t221 t222 t223 t224 t225 _ A5.out).mono ?_); rintro e w' ⟨rfl, ⟨nd, rfl⟩⟩; refine ⟨_, rfl, ?_⟩) | ((with_reducible refine gate_callee (f := 49) rfl ?_); refine goesL_ (some 37) rfl rfl Try.func49 (by kernel_rfl) rfl #[.int .i64 t221, .int .i64 t222, .int .i64 t223] rfl (by (try simp only [List.map_toArray, List.map_cons, List.map_nil]); first | done | rfl | (simp only [List.length_drop, List.length_take]; rfl)) ?_; (with_reducible refine (spec_AddWords.calls t221 t222 t223 t226 t227 _ A6.out).mono ?_); rintro e w' ⟨rfl, ⟨nd, rfl⟩⟩; refine ⟨_, rfl, ?_⟩) | ((with_reducible refine gate_callee (f := 50) rfl ?_); refine goesL_ (some 42) rfl rfl Try.func50 (by kernel_rfl) rfl #[.slice A0 l0.length c0] rfl (by (try simp only [List.map_toArray, List.map_cons, List.map_nil]); first | done | rfl | (simp only [List.length_drop, List.length_take]; rfl)) ?_; (with_reducible refine (spec_DrawAddSigned.calls k _ _ l0 t228 t229 _ ?side1 ?side2 A7.out).mono ?_); (case side1 => repeat (first | exact (Kd.C_below HR0.out (by repeat (first | (with_reducible first | exact HB.out | apply below_alloc | apply pw_below_drewN | apply below_drew1) | exact HB.out))) | (with_reducible refine Kd.C_alloc ?_ _) | (with_reducible refine Kd.C_drewN ?_ _) | (with_reducible refine Kd.C_drew ?_))); (case side2 => exact HC0.out); rintro e w12 ⟨rfl, hb⟩; refine ⟨_, rfl, ?_⟩; have n0_ := Aside0.mk (below_step (by repeat (first | (with_reducible first | exact HB.out | apply below_alloc | apply pw_below_drewN | apply below_drew1) | exact HB.out)) hb); clear HB; have HB := n0_; clear n0_; (try clear hb); (try clear hb2); (try clear hk); (try clear hi)) | ((with_reducible refine gate_callee (f := 51) rfl ?_); refine goesL_ (some 48) rfl rfl Try.func51 (by kernel_rfl) rfl #[.int .i64 t228, .int .i64 t229] rfl (by (try simp only [List.map_toArray, List.map_cons, List.map_nil]); first | done | rfl | (simp only [List.length_drop, List.length_take]; rfl)) ?_; (with_reducible refine (impl_AddSigned.calls k t228 t229 t230 t231 _ A8.out).mono ?_); rintro e w' ⟨rfl, ⟨nd, rfl⟩⟩; refine ⟨_, rfl, ?_⟩) | ((with_reducible refine gate_callee (f := 52) rfl ?_); refine goesL_ (some 54) rfl rfl Try.func52 (by kernel_rfl) rfl #[.int .i64 t228, .int .i64 t229] rfl (by (try simp only [List.map_toArray, List.map_cons, List.map_nil]); first | done | rfl | (simp only [List.length_drop, List.length_take]; rfl)) ?_; (with_reducible refine (spec_AddSigned.calls k t228 t229 t232 t233 _ A9.out).mono ?_); rintro e w' ⟨rfl, ⟨nd, rfl⟩⟩; refine ⟨_, rfl, ?_⟩))
    (try simp only [Act.put, List.setIfInBounds_toArray, List.set_cons_zero, List.set_cons_succ])
    go_cut [74] (fun v74 wc => ∃ (kq : Nat) (x74_9 : Bool), v74 = .bool x74_9 ∧ Aside0 (laws_FnWords.j0 kq t221 t222 t223 t224 t225 t228 t229 t230 t231 x74_9 = some r) ∧ Aside0 (kq ≤ k) ∧ Aside0 (Below w.heap.size w wc))
    case first =>
      have H := HC10.out
      clear HC10
      by_cases c13 : t224 = t226
      · rw [if_pos c13] at H
        have c13b0 : (t224 == t226) = true := beq_iff_eq.mpr c13
        have c13b1 : (t224 != t226) = false := bne_eq_false_iff_eq.mpr c13
        clear c13
        (first | rw [c13b0] | (simp only [i64_w, i32_w]; rw [c13b0]) | skip)
        by_cases c14 : t225 = t227
        · rw [if_pos c14] at H
          have c14b0 : (t225 == t227) = true := beq_iff_eq.mpr c14
          have c14b1 : (t225 != t227) = false := bne_eq_false_iff_eq.mpr c14
          clear c14
          by_cases c15 : t230 = t232
          · rw [if_pos c15] at H
            have c15b0 : (t230 == t232) = true := beq_iff_eq.mpr c15
            have c15b1 : (t230 != t232) = false := bne_eq_false_iff_eq.mpr c15
            clear c15
            have H' := Aside0.mk H
            clear H
            go_wp2
            go_meet
            case rel => exact ⟨_, ((t231 != t233)), (by first | rfl | (simp; done) | (simp [*]; done)), H', ⟨by first | omega | exact Nat.le_refl _⟩, ⟨by repeat (first | (with_reducible first | exact HB.out | apply below_alloc | apply pw_below_drewN | apply below_drew1) | exact HB.out)⟩⟩
          · rw [if_neg c15] at H
            have c15b0 : (t230 == t232) = false := beq_eq_false_iff_ne.mpr c15
            have c15b1 : (t230 != t232) = true := bne_iff_ne.mpr c15
            have H' := Aside0.mk H
            clear H
            go_wp2
            go_meet
            case rel => exact ⟨_, (true), (by first | rfl | (simp; done) | (simp [*]; done)), H', ⟨by first | omega | exact Nat.le_refl _⟩, ⟨by repeat (first | (with_reducible first | exact HB.out | apply below_alloc | apply pw_below_drewN | apply below_drew1) | exact HB.out)⟩⟩
        · rw [if_neg c14] at H
          have c14b0 : (t225 == t227) = false := beq_eq_false_iff_ne.mpr c14
          have c14b1 : (t225 != t227) = true := bne_iff_ne.mpr c14
          have H' := Aside0.mk H
          clear H
          go_wp2
          go_meet
          case rel => exact ⟨_, (true), (by first | rfl | (simp; done) | (simp [*]; done)), H', ⟨by first | omega | exact Nat.le_refl _⟩, ⟨by repeat (first | (with_reducible first | exact HB.out | apply below_alloc | apply pw_below_drewN | apply below_drew1) | exact HB.out)⟩⟩
      · rw [if_neg c13] at H
        have c13b0 : (t224 == t226) = false := beq_eq_false_iff_ne.mpr c13
        have c13b1 : (t224 != t226) = true := bne_iff_ne.mpr c13
        (first | rw [c13b0] | (simp only [i64_w, i32_w]; rw [c13b0]) | skip)
        have H' := Aside0.mk H
        clear H
        go_wp2
        go_meet
        case rel => exact ⟨_, (true), (by first | rfl | (simp; done) | (simp [*]; done)), H', ⟨by first | omega | exact Nat.le_refl _⟩, ⟨by repeat (first | (with_reducible first | exact HB.out | apply below_alloc | apply pw_below_drewN | apply below_drew1) | exact HB.out)⟩⟩
    case rest =>
      clear HC10
      try clear c1
      try clear p2
      try clear c3
      try clear c4
      try clear c5
      try clear c13
      try clear c13b0
      try clear c13b1
      try clear c14
      try clear c14b0
      try clear c14b1
      try clear c15
      try clear c15b0
      try clear c15b1
      obtain ⟨kq, x74_9, rfl, HA, HJ9, HB⟩ := hcut
      cases kq with
      | zero => exact absurd HA.out (by simp [laws_FnWords.j0])
      | succ kj9 =>
        have H := HA.out
        clear HA
        simp only [laws_FnWords.j0] at H
        by_cases c16 : x74_9 = true
        · subst c16
          have H1 : (some false) = some r := by rw [if_pos rfl] at H; exact H
          clear H
          have H := H1
          clear H1
          obtain rfl := Option.some.inj H
          go_wp2
          go_ret
          exact ⟨by first | rfl | (simp [errW_none, errW_some] <;> rfl) | (simp [*, errW_none, errW_some] <;> rfl), by repeat (first | (with_reducible first | exact HB.out | apply below_alloc | apply pw_below_drewN | apply below_drew1) | exact HB.out)⟩
        · replace c16 := Bool.eq_false_iff.mpr c16
          subst c16
          have H1 : (if t221 ≥ 0 then (if t221 ≤ 65535 then (if t222 ≥ 0 then (if t222 ≤ 65535 then (if t223 ≥ 0 then (if t223 ≤ 255 then (if (wrap64 (t224 + (wrap64 (65536 * (Int.tmod (wrap64 (Int.tdiv t225 16)) 2))))) = (wrap64 (t221 + t222)) then (laws_FnWords.j1 kj9 t228 t229 t230 t231 ((decide (t225 ≥ 128)) != (decide (t223 ≥ 128)))) else (laws_FnWords.j1 kj9 t228 t229 t230 t231 true)) else (laws_FnWords.j1 kj9 t228 t229 t230 t231 false)) else (laws_FnWords.j1 kj9 t228 t229 t230 t231 false)) else (laws_FnWords.j1 kj9 t228 t229 t230 t231 false)) else (laws_FnWords.j1 kj9 t228 t229 t230 t231 false)) else (laws_FnWords.j1 kj9 t228 t229 t230 t231 false)) else (laws_FnWords.j1 kj9 t228 t229 t230 t231 false)) = some r := by rw [if_neg (show ¬ (false = true) by decide)] at H; exact H
          clear H
          have H := H1
          clear H1
          have HC17 := Aside0.mk H
          clear H
          go_upto_region 11 with (fail)
          go_cut [115] (fun v115 wc => ∃ (kq : Nat) (x115_16 : Bool), v115 = .bool x115_16 ∧ Aside0 (laws_FnWords.j1 kq t228 t229 t230 t231 x115_16 = some r) ∧ Aside0 (kq ≤ kj9) ∧ Aside0 (Below w.heap.size w wc))
          case first =>
            have H := HC17.out
            clear HC17
            by_cases c18 : t221 ≥ 0
            · rw [if_pos c18] at H
              have c18b0 : decide (0 ≤ t221) = true := decide_eq_true c18
              clear c18
              (first | rw [c18b0] | (simp only [i64_w, i32_w]; rw [c18b0]) | skip)
              by_cases c19 : t221 ≤ 65535
              · rw [if_pos c19] at H
                have c19b0 : decide (t221 ≤ 65535) = true := decide_eq_true c19
                clear c19
                by_cases c20 : t222 ≥ 0
                · rw [if_pos c20] at H
                  have c20b0 : decide (0 ≤ t222) = true := decide_eq_true c20
                  clear c20
                  by_cases c21 : t222 ≤ 65535
                  · rw [if_pos c21] at H
                    have c21b0 : decide (t222 ≤ 65535) = true := decide_eq_true c21
                    clear c21
                    by_cases c22 : t223 ≥ 0
                    · rw [if_pos c22] at H
                      have c22b0 : decide (0 ≤ t223) = true := decide_eq_true c22
                      clear c22
                      by_cases c23 : t223 ≤ 255
                      · rw [if_pos c23] at H
                        have c23b0 : decide (t223 ≤ 255) = true := decide_eq_true c23
                        clear c23
                        by_cases c24 : (wrap64 (t224 + (wrap64 (65536 * (Int.tmod (wrap64 (Int.tdiv t225 16)) 2))))) = (wrap64 (t221 + t222))
                        · rw [if_pos c24] at H
                          have c24b0 : ((wrap64 (t224 + (wrap64 (65536 * (Int.tmod (wrap64 (Int.tdiv t225 16)) 2))))) == (wrap64 (t221 + t222))) = true := beq_iff_eq.mpr c24
                          have c24b1 : ((wrap64 (t224 + (wrap64 (65536 * (Int.tmod (wrap64 (Int.tdiv t225 16)) 2))))) != (wrap64 (t221 + t222))) = false := bne_eq_false_iff_eq.mpr c24
                          clear c24
                          have H' := Aside0.mk H
                          clear H
                          go_wp2
                          go_meet
                          case rel => exact ⟨_, (((decide (t225 ≥ 128)) != (decide (t223 ≥ 128)))), (by first | rfl | (simp; done) | (simp [*]; done)), H', ⟨by have := HJ9.out; first | omega | exact Nat.le_refl _⟩, ⟨by repeat (first | (with_reducible first | exact HB.out | apply below_alloc | apply pw_below_drewN | apply below_drew1) | exact HB.out)⟩⟩
                        · rw [if_neg c24] at H
                          have c24b0 : ((wrap64 (t224 + (wrap64 (65536 * (Int.tmod (wrap64 (Int.tdiv t225 16)) 2))))) == (wrap64 (t221 + t222))) = false := beq_eq_false_iff_ne.mpr c24
                          have c24b1 : ((wrap64 (t224 + (wrap64 (65536 * (Int.tmod (wrap64 (Int.tdiv t225 16)) 2))))) != (wrap64 (t221 + t222))) = true := bne_iff_ne.mpr c24
                          have H' := Aside0.mk H
                          clear H
                          go_wp2
                          go_meet
                          case rel => exact ⟨_, (true), (by first | rfl | (simp; done) | (simp [*]; done)), H', ⟨by have := HJ9.out; first | omega | exact Nat.le_refl _⟩, ⟨by repeat (first | (with_reducible first | exact HB.out | apply below_alloc | apply pw_below_drewN | apply below_drew1) | exact HB.out)⟩⟩
                      · rw [if_neg c23] at H
                        have c23b0 : decide (t223 ≤ 255) = false := decide_eq_false c23
                        clear c23
                        have H' := Aside0.mk H
                        clear H
                        go_wp2
                        go_meet
                        case rel => exact ⟨_, (false), (by first | rfl | (simp; done) | (simp [*]; done)), H', ⟨by have := HJ9.out; first | omega | exact Nat.le_refl _⟩, ⟨by repeat (first | (with_reducible first | exact HB.out | apply below_alloc | apply pw_below_drewN | apply below_drew1) | exact HB.out)⟩⟩
                    · rw [if_neg c22] at H
                      have c22b0 : decide (0 ≤ t223) = false := decide_eq_false c22
                      clear c22
                      have H' := Aside0.mk H
                      clear H
                      go_wp2
                      go_meet
                      case rel => exact ⟨_, (false), (by first | rfl | (simp; done) | (simp [*]; done)), H', ⟨by have := HJ9.out; first | omega | exact Nat.le_refl _⟩, ⟨by repeat (first | (with_reducible first | exact HB.out | apply below_alloc | apply pw_below_drewN | apply below_drew1) | exact HB.out)⟩⟩
                  · rw [if_neg c21] at H
                    have c21b0 : decide (t222 ≤ 65535) = false := decide_eq_false c21
                    clear c21
                    have H' := Aside0.mk H
                    clear H
                    go_wp2
                    go_meet
                    case rel => exact ⟨_, (false), (by first | rfl | (simp; done) | (simp [*]; done)), H', ⟨by have := HJ9.out; first | omega | exact Nat.le_refl _⟩, ⟨by repeat (first | (with_reducible first | exact HB.out | apply below_alloc | apply pw_below_drewN | apply below_drew1) | exact HB.out)⟩⟩
                · rw [if_neg c20] at H
                  have c20b0 : decide (0 ≤ t222) = false := decide_eq_false c20
                  clear c20
                  have H' := Aside0.mk H
                  clear H
                  go_wp2
                  go_meet
                  case rel => exact ⟨_, (false), (by first | rfl | (simp; done) | (simp [*]; done)), H', ⟨by have := HJ9.out; first | omega | exact Nat.le_refl _⟩, ⟨by repeat (first | (with_reducible first | exact HB.out | apply below_alloc | apply pw_below_drewN | apply below_drew1) | exact HB.out)⟩⟩
              · rw [if_neg c19] at H
                have c19b0 : decide (t221 ≤ 65535) = false := decide_eq_false c19
                clear c19
                have H' := Aside0.mk H
                clear H
                go_wp2
                go_meet
                case rel => exact ⟨_, (false), (by first | rfl | (simp; done) | (simp [*]; done)), H', ⟨by have := HJ9.out; first | omega | exact Nat.le_refl _⟩, ⟨by repeat (first | (with_reducible first | exact HB.out | apply below_alloc | apply pw_below_drewN | apply below_drew1) | exact HB.out)⟩⟩
            · rw [if_neg c18] at H
              have c18b0 : decide (0 ≤ t221) = false := decide_eq_false c18
              clear c18
              (first | rw [c18b0] | (simp only [i64_w, i32_w]; rw [c18b0]) | skip)
              have H' := Aside0.mk H
              clear H
              go_wp2
              go_meet
              case rel => exact ⟨_, (false), (by first | rfl | (simp; done) | (simp [*]; done)), H', ⟨by have := HJ9.out; first | omega | exact Nat.le_refl _⟩, ⟨by repeat (first | (with_reducible first | exact HB.out | apply below_alloc | apply pw_below_drewN | apply below_drew1) | exact HB.out)⟩⟩
          case rest =>
            clear HC17
            try clear c1
            try clear c2
            try clear p2
            try clear c3
            try clear c4
            try clear c5
            try clear p6
            try clear c13
            try clear c13b0
            try clear c13b1
            try clear c14
            try clear c14b0
            try clear c14b1
            try clear c15
            try clear c15b0
            try clear c15b1
            try clear c16
            try clear c18
            try clear c18b0
            try clear c19
            try clear c19b0
            try clear c20
            try clear c20b0
            try clear c21
            try clear c21b0
            try clear c22
            try clear c22b0
            try clear c23
            try clear c23b0
            try clear c24
            try clear c24b0
            try clear c24b1
            try clear p2
            obtain ⟨kq, x115_16, rfl, HA, HJ16, HB⟩ := hcut
            cases kq with
            | zero => exact absurd HA.out (by simp [laws_FnWords.j1])
            | succ kj16 =>
              have H := HA.out
              clear HA
              simp only [laws_FnWords.j1] at H
              by_cases c25 : x115_16 = true
              · subst c25
                have H1 : (some false) = some r := by rw [if_pos rfl] at H; exact H
                clear H
                have H := H1
                clear H1
                obtain rfl := Option.some.inj H
                go_wp2
                go_ret
                exact ⟨by first | rfl | (simp [errW_none, errW_some] <;> rfl) | (simp [*, errW_none, errW_some] <;> rfl), by repeat (first | (with_reducible first | exact HB.out | apply below_alloc | apply pw_below_drewN | apply below_drew1) | exact HB.out)⟩
              · replace c25 := Bool.eq_false_iff.mpr c25
                subst c25
                have H1 : (if t228 < 0 then (laws_FnWords.j2 kj16 t228 t229 t230 t231 true) else (if t228 > 65535 then (laws_FnWords.j2 kj16 t228 t229 t230 t231 true) else (if t229 < 0 then (laws_FnWords.j2 kj16 t228 t229 t230 t231 true) else (laws_FnWords.j2 kj16 t228 t229 t230 t231 (decide (t229 > 255)))))) = some r := by rw [if_neg (show ¬ (false = true) by decide)] at H; exact H
                clear H
                have H := H1
                clear H1
                have HC26 := Aside0.mk H
                clear H
                go_upto_region 13 with (fail)
                go_cut [129] (fun v129 wc => ∃ (kq : Nat) (x129_25 : Bool), v129 = .bool x129_25 ∧ Aside0 (laws_FnWords.j2 kq t228 t229 t230 t231 x129_25 = some r) ∧ Aside0 (kq ≤ kj16) ∧ Aside0 (Below w.heap.size w wc))
                case first =>
                  have H := HC26.out
                  clear HC26
                  by_cases c27 : t228 < 0
                  · rw [if_pos c27] at H
                    have c27b0 : decide (t228 < 0) = true := decide_eq_true c27
                    clear c27
                    (first | rw [c27b0] | (simp only [i64_w, i32_w]; rw [c27b0]) | skip)
                    have H' := Aside0.mk H
                    clear H
                    go_wp2
                    go_meet
                    case rel => exact ⟨_, (true), (by first | rfl | (simp; done) | (simp [*]; done)), H', ⟨by have := HJ9.out; have := HJ16.out; first | omega | exact Nat.le_refl _⟩, ⟨by repeat (first | (with_reducible first | exact HB.out | apply below_alloc | apply pw_below_drewN | apply below_drew1) | exact HB.out)⟩⟩
                  · rw [if_neg c27] at H
                    have c27b0 : decide (t228 < 0) = false := decide_eq_false c27
                    clear c27
                    (first | rw [c27b0] | (simp only [i64_w, i32_w]; rw [c27b0]) | skip)
                    by_cases c28 : t228 > 65535
                    · rw [if_pos c28] at H
                      have c28b0 : decide (65535 < t228) = true := decide_eq_true c28
                      clear c28
                      have H' := Aside0.mk H
                      clear H
                      go_wp2
                      go_meet
                      case rel => exact ⟨_, (true), (by first | rfl | (simp; done) | (simp [*]; done)), H', ⟨by have := HJ9.out; have := HJ16.out; first | omega | exact Nat.le_refl _⟩, ⟨by repeat (first | (with_reducible first | exact HB.out | apply below_alloc | apply pw_below_drewN | apply below_drew1) | exact HB.out)⟩⟩
                    · rw [if_neg c28] at H
                      have c28b0 : decide (65535 < t228) = false := decide_eq_false c28
                      clear c28
                      by_cases c29 : t229 < 0
                      · rw [if_pos c29] at H
                        have c29b0 : decide (t229 < 0) = true := decide_eq_true c29
                        clear c29
                        have H' := Aside0.mk H
                        clear H
                        go_wp2
                        go_meet
                        case rel => exact ⟨_, (true), (by first | rfl | (simp; done) | (simp [*]; done)), H', ⟨by have := HJ9.out; have := HJ16.out; first | omega | exact Nat.le_refl _⟩, ⟨by repeat (first | (with_reducible first | exact HB.out | apply below_alloc | apply pw_below_drewN | apply below_drew1) | exact HB.out)⟩⟩
                      · rw [if_neg c29] at H
                        have c29b0 : decide (t229 < 0) = false := decide_eq_false c29
                        clear c29
                        have H' := Aside0.mk H
                        clear H
                        go_wp2
                        go_meet
                        case rel => exact ⟨_, (decide (t229 > 255)), (by first | rfl | (simp; done) | (simp [*]; done)), H', ⟨by have := HJ9.out; have := HJ16.out; first | omega | exact Nat.le_refl _⟩, ⟨by repeat (first | (with_reducible first | exact HB.out | apply below_alloc | apply pw_below_drewN | apply below_drew1) | exact HB.out)⟩⟩
                case rest =>
                  clear HC26
                  try clear c1
                  try clear c2
                  try clear p2
                  try clear c3
                  try clear c4
                  try clear c5
                  try clear p6
                  try clear c13
                  try clear c13b0
                  try clear c13b1
                  try clear c14
                  try clear c14b0
                  try clear c14b1
                  try clear c15
                  try clear c15b0
                  try clear c15b1
                  try clear c16
                  try clear c18
                  try clear c18b0
                  try clear c19
                  try clear c19b0
                  try clear c20
                  try clear c20b0
                  try clear c21
                  try clear c21b0
                  try clear c22
                  try clear c22b0
                  try clear c23
                  try clear c23b0
                  try clear c24
                  try clear c24b0
                  try clear c24b1
                  try clear c25
                  try clear c27
                  try clear c27b0
                  try clear c28
                  try clear c28b0
                  try clear c29
                  try clear c29b0
                  try clear p2
                  try clear p6
                  obtain ⟨kq, x129_25, rfl, HA, HJ25, HB⟩ := hcut
                  cases kq with
                  | zero => exact absurd HA.out (by simp [laws_FnWords.j2])
                  | succ kj25 =>
                    have H := HA.out
                    clear HA
                    simp only [laws_FnWords.j2] at H
                    by_cases c30 : x129_25 = true
                    · subst c30
                      have H1 : (some true) = some r := by rw [if_pos rfl] at H; exact H
                      clear H
                      have H := H1
                      clear H1
                      obtain rfl := Option.some.inj H
                      go_wp2
                      go_ret
                      exact ⟨by first | rfl | (simp [errW_none, errW_some] <;> rfl) | (simp [*, errW_none, errW_some] <;> rfl), by repeat (first | (with_reducible first | exact HB.out | apply below_alloc | apply pw_below_drewN | apply below_drew1) | exact HB.out)⟩
                    · replace c30 := Bool.eq_false_iff.mpr c30
                      subst c30
                      have H1 : ((impl_Alu.f kj25 0 (Int.tmod t228 256) t229 0).bind fun bt234 => ((impl_SignedOf.f t229).bind fun t236 => (if (Int.tmod (wrap64 ((wrap64 (t230 - t228)) - t236)) 65536) = 0 then (some (t231 == (Int.tmod bt234.2 128))) else (some false)))) = some r := by rw [if_neg (show ¬ (false = true) by decide)] at H; exact H
                      clear H
                      have H := H1
                      clear H1
                      replace H := Option.bind_eq_some_iff.mp H
                      obtain ⟨⟨t234, t235⟩, A310, H⟩ := H
                      replace H : ((impl_SignedOf.f t229).bind fun t236 => (if (Int.tmod (wrap64 ((wrap64 (t230 - t228)) - t236)) 65536) = 0 then (some (t231 == (Int.tmod t235 128))) else (some false))) = some r := H
                      have A31 := Aside0.mk A310
                      clear A310
                      replace H := Option.bind_eq_some_iff.mp H
                      obtain ⟨t236, A320, H⟩ := H
                      replace H : (if (Int.tmod (wrap64 ((wrap64 (t230 - t228)) - t236)) 65536) = 0 then (some (t231 == (Int.tmod t235 128))) else (some false)) = some r := H
                      have A32 := Aside0.mk A320
                      clear A320
                      by_cases c33 : (Int.tmod (wrap64 ((wrap64 (t230 - t228)) - t236)) 65536) = 0
                      · rw [if_pos c33] at H
                        have c33b0 : ((Int.tmod (wrap64 ((wrap64 (t230 - t228)) - t236)) 65536) == 0) = true := beq_iff_eq.mpr c33
                        have c33b1 : ((Int.tmod (wrap64 ((wrap64 (t230 - t228)) - t236)) 65536) != 0) = false := bne_eq_false_iff_eq.mpr c33
                        clear c33
                        obtain rfl := Option.some.inj H
                        go_wp2_with (first | ((with_reducible refine gate_callee (f := 27) rfl ?_); refine goesL_ (some 134) rfl rfl Try.func27 (by kernel_rfl) rfl #[.int .i64 0, .int .i64 (Int.tmod t228 256), .int .i64 t229, .int .i64 0] rfl (by (try simp only [List.map_toArray, List.map_cons, List.map_nil]); first | done | rfl | (simp only [List.length_drop, List.length_take]; rfl)) ?_; (with_reducible refine (impl_Alu.calls kj25 0 (Int.tmod t228 256) t229 0 t234 t235 _ A31.out).mono ?_); rintro e w' ⟨rfl, ⟨nd, rfl⟩⟩; refine ⟨_, rfl, ?_⟩) | ((with_reducible refine gate_callee (f := 18) rfl ?_); refine goesL_ (some 141) rfl rfl Try.func18 (by kernel_rfl) rfl #[.int .i64 t229] rfl (by (try simp only [List.map_toArray, List.map_cons, List.map_nil]); first | done | rfl | (simp only [List.length_drop, List.length_take]; rfl)) ?_; (with_reducible refine (impl_SignedOf.calls t229 t236 _ A32.out).mono ?_); rintro e w' ⟨rfl, ⟨nd, rfl⟩⟩; refine ⟨_, rfl, ?_⟩))
                        go_ret
                        exact ⟨by first | rfl | (simp [errW_none, errW_some] <;> rfl) | (simp [*, errW_none, errW_some] <;> rfl), by repeat (first | (with_reducible first | exact HB.out | apply below_alloc | apply pw_below_drewN | apply below_drew1) | exact HB.out)⟩
                      · rw [if_neg c33] at H
                        have c33b0 : ((Int.tmod (wrap64 ((wrap64 (t230 - t228)) - t236)) 65536) == 0) = false := beq_eq_false_iff_ne.mpr c33
                        have c33b1 : ((Int.tmod (wrap64 ((wrap64 (t230 - t228)) - t236)) 65536) != 0) = true := bne_iff_ne.mpr c33
                        obtain rfl := Option.some.inj H
                        go_wp2_with (first | ((with_reducible refine gate_callee (f := 27) rfl ?_); refine goesL_ (some 134) rfl rfl Try.func27 (by kernel_rfl) rfl #[.int .i64 0, .int .i64 (Int.tmod t228 256), .int .i64 t229, .int .i64 0] rfl (by (try simp only [List.map_toArray, List.map_cons, List.map_nil]); first | done | rfl | (simp only [List.length_drop, List.length_take]; rfl)) ?_; (with_reducible refine (impl_Alu.calls kj25 0 (Int.tmod t228 256) t229 0 t234 t235 _ A31.out).mono ?_); rintro e w' ⟨rfl, ⟨nd, rfl⟩⟩; refine ⟨_, rfl, ?_⟩) | ((with_reducible refine gate_callee (f := 18) rfl ?_); refine goesL_ (some 141) rfl rfl Try.func18 (by kernel_rfl) rfl #[.int .i64 t229] rfl (by (try simp only [List.map_toArray, List.map_cons, List.map_nil]); first | done | rfl | (simp only [List.length_drop, List.length_take]; rfl)) ?_; (with_reducible refine (impl_SignedOf.calls t229 t236 _ A32.out).mono ?_); rintro e w' ⟨rfl, ⟨nd, rfl⟩⟩; refine ⟨_, rfl, ?_⟩))
                        go_ret
                        exact ⟨by first | rfl | (simp [errW_none, errW_some] <;> rfl) | (simp [*, errW_none, errW_some] <;> rfl), by repeat (first | (with_reducible first | exact HB.out | apply below_alloc | apply pw_below_drewN | apply below_drew1) | exact HB.out)⟩

/-- THE ONE PURE STATEMENT of laws_FnWords: yours. -/
def laws_FnWords.Pure : Prop := ∀ (l0 : List Int), l0.length ≤ maxLen → l0.length * 1 ≤ 140737488351232 → (∀ x ∈ l0, (Lit.int .u8 x).wf = true) → ∃ k, laws_FnWords.f k l0 = some true
theorem laws_FnWords.walk (P : laws_FnWords.Pure) (a0 : Option Addr) (len0 cap0 : Nat) (z0 : List Int) (w : World) (w0 : (a0 = none ∧ len0 = 0 ∧ cap0 = 0 ∧ z0 = []) ∨ ∃ x, a0 = some x ∧ len0 ≤ cap0 ∧ cap0 ≤ maxLen ∧ z0.length = cap0 ∧ (∀ i, i < z0.length → w.cell? (x.add i) = some (.int .u8 (z0.getD i 0))) ∧ ∀ n ∈ z0, (Lit.int .u8 n).wf = true) (y0 : len0 * 1 ≤ 140737488351232) :
    Calls Try.prog 15 #[.slice a0 len0 cap0] w fun e w' => e = .returned (.bool true) ∧ Below w.heap.size w w' := by
  obtain ⟨l0, rfl, hr0, hm0, hw0, hc0⟩ := ReadsInt.ofRowC w0
  obtain ⟨k, h⟩ := P l0 hm0 y0 hw0
  refine (laws_FnWords.calls k _ _ l0 true w (Kd.C_of_reads (d := (0 : Int)) (h1 := fun _ => rfl) hr0) hc0 h).mono ?_
  rintro e w' ⟨rfl, hd⟩
  exact ⟨rfl, hd⟩

end Go.Proofs.Ytahibkfcohajcaa.PFnWords
