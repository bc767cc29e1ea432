/- The machine's side of a law, written by a program of this session for this claim. -/
import Derived.Test.YtahibkfcohajcaaQFnNumsx0
import Derived.Test.YtahibkfcohajcaaQFnNumsx1
import Derived.Test.YtahibkfcohajcaaQFnNumsx2
import Derived.Test.YtahibkfcohajcaaQFnNumsx3
namespace Go.Proofs.Ytahibkfcohajcaa.QFnNums
open Go.RowKit Go.Proofs.Ytahibkfcohajcaa.LibX Go.Proofs.Ytahibkfcohajcaa.LibE Go.Proofs.YtahibkfcohajcaaW.PrintWords Go.Proofs.YtahibkfcohajcaaW.PrintLast Go.Proofs.YtahibkfcohajcaaW.PrintMore
attribute [local go_sem] max2_int min2_int max_two min_two max_three min_three max_four min_four   -- for this text's walks alone
set_option linter.unusedVariables false
set_option linter.unusedSimpArgs false

/-! ### laws_FnNums: function 7 -/
def laws_FnNums.j0 : Nat → ByteArray → Int → Bool → Int → Bool → Bool → Option (Bool)
  | 0, _, _, _, _, _, _ => none
  | k + 1, x3, x4, x5, x6, x7, x36 => if x36 = true then (if x4 = x6 then (some (x5 == x7)) else (some false)) else (if 1 + x3.size ≤ 9223372036854775807 then (if 0 < (x3.size : Int) then (if (bt x3 0) = 36 then (if 0 ≤ 1 then (if 1 ≤ (x3.size : Int) then (if (x3.extract 0 1).size + 1 ≤ 9223372036854775807 then (if ((x3.extract 0 1) ++ (⟨#[48]⟩ : ByteArray)).size + (x3.extract 1 x3.size).size ≤ 9223372036854775807 then ((impl_ReadNum.f k (((x3.extract 0 1) ++ (⟨#[48]⟩ : ByteArray)) ++ (x3.extract 1 x3.size))).bind fun bt184 => (if x4 ≥ 0 then (if x4 ≤ 65535 then (if ((((x3.extract 0 1) ++ (⟨#[48]⟩ : ByteArray)) ++ (x3.extract 1 x3.size)).size : Int) > 18 then (some true) else (if bt184.2 = true then (some (bt184.1 == x4)) else (some false))) else (some false)) else (some false))) else (none)) else (none)) else (none)) else (none)) else (if (bt x3 0) = 37 then (if 0 ≤ 1 then (if 1 ≤ (x3.size : Int) then (if (x3.extract 0 1).size + 1 ≤ 9223372036854775807 then (if ((x3.extract 0 1) ++ (⟨#[48]⟩ : ByteArray)).size + (x3.extract 1 x3.size).size ≤ 9223372036854775807 then ((impl_ReadNum.f k (((x3.extract 0 1) ++ (⟨#[48]⟩ : ByteArray)) ++ (x3.extract 1 x3.size))).bind fun bt186 => (if x4 ≥ 0 then (if x4 ≤ 65535 then (if ((((x3.extract 0 1) ++ (⟨#[48]⟩ : ByteArray)) ++ (x3.extract 1 x3.size)).size : Int) > 18 then (some true) else (if bt186.2 = true then (some (bt186.1 == x4)) else (some false))) else (some false)) else (some false))) else (none)) else (none)) else (none)) else (none)) else ((impl_ReadNum.f k ((⟨#[48]⟩ : ByteArray) ++ x3)).bind fun bt188 => (if x4 ≥ 0 then (if x4 ≤ 65535 then (if (((⟨#[48]⟩ : ByteArray) ++ x3).size : Int) > 18 then (some true) else (if bt188.2 = true then (some (bt188.1 == x4)) else (some false))) else (some false)) else (some false))))) else (none)) else (none))
def laws_FnNums.f (k : Nat) (l0 : List Int) : Option (Bool) := (laws_big.f l0).bind fun t178 => (if t178 = true then (some true) else ((spec_DrawReadNum.f k l0).bind fun t179 => ((impl_ReadNum.f k t179).bind fun bt180 => ((spec_ReadNum.f k t179).bind fun bt182 => (if bt180.1 = bt182.1 then (if (bt180.2 != bt182.2) = true then (laws_FnNums.j0 k t179 bt180.1 bt180.2 bt182.1 bt182.2 true) else (laws_FnNums.j0 k t179 bt180.1 bt180.2 bt182.1 bt182.2 (!bt180.2))) else (laws_FnNums.j0 k t179 bt180.1 bt180.2 bt182.1 bt182.2 true))))))
theorem laws_FnNums.mono_l : ∀ k, (∀ y0 y1 y2 y3 y4 y5, LeO (laws_FnNums.j0 k y0 y1 y2 y3 y4 y5) (laws_FnNums.j0 (k + 1) y0 y1 y2 y3 y4 y5))
  | 0 => fun _ _ _ _ _ _ r h => by simp [laws_FnNums.j0] at h
  | k + 1 => by
    have ih0 := laws_FnNums.mono_l k
    · intro y0 y1 y2 y3 y4 y5
      unfold laws_FnNums.j0
      repeat' first
      | (with_reducible exact ih0 _ _ _ _ _ _)
      | (with_reducible exact impl_ReadNum.mono _ _)
      | (with_reducible exact spec_DrawReadNum.mono _ _)
      | (with_reducible exact spec_ReadNum.mono _ _)
      | (with_reducible exact LeO.refl _)
      | (with_reducible exact LeO.none _)
      | (with_reducible refine LeO.ite ?_ ?_)
      | (with_reducible refine LeO.bind ?_ (fun _ => ?_))
      | exact ih0 _ _ _ _ _ _
      | exact impl_ReadNum.mono _ _
      | exact spec_DrawReadNum.mono _ _
      | exact spec_ReadNum.mono _ _
      | exact LeO.none _
      | refine LeO.ite ?_ ?_
      | refine LeO.bind ?_ (fun _ => ?_)
theorem laws_FnNums.mono : ∀ a0 k, LeO (laws_FnNums.f k a0) (laws_FnNums.f (k + 1) a0) := by
  intro a0 k
  have ih0 := laws_FnNums.mono_l k
  unfold laws_FnNums.f
  repeat' first
      | (with_reducible exact ih0 _ _ _ _ _ _)
      | (with_reducible exact impl_ReadNum.mono _ _)
      | (with_reducible exact spec_DrawReadNum.mono _ _)
      | (with_reducible exact spec_ReadNum.mono _ _)
      | (with_reducible exact LeO.refl _)
      | (with_reducible exact LeO.none _)
      | (with_reducible refine LeO.ite ?_ ?_)
      | (with_reducible refine LeO.bind ?_ (fun _ => ?_))
      | exact ih0 _ _ _ _ _ _
      | exact impl_ReadNum.mono _ _
      | exact spec_DrawReadNum.mono _ _
      | exact spec_ReadNum.mono _ _
      | exact LeO.none _
      | refine LeO.ite ?_ ?_
      | refine LeO.bind ?_ (fun _ => ?_)
set_option maxHeartbeats 8000000 in
set_option maxRecDepth 100000 in
theorem laws_FnNums.calls (k : Nat) (A0 : Option Addr) (c0 : Nat) (l0 : List Int) (r : Bool) (w : World) (hr0 : Kd.C (Kd.int .u8) w A0 l0.length l0) (hc0 : l0.length ≤ c0) (h : laws_FnNums.f k l0 = some r) :
    Calls Try.prog 7 #[.slice A0 l0.length c0] w fun e w' => e = .returned (.bool r) ∧ Below w.heap.size w w' := by
  have HR0 := Aside0.mk hr0
  have HC0 := Aside0.mk hc0
  clear hr0 hc0
  have HB := Aside0.mk (Below.refl w.heap.size w)
  have H : ((laws_big.f l0).bind fun t178 => (if t178 = true then (some true) else ((spec_DrawReadNum.f k l0).bind fun t179 => ((impl_ReadNum.f k t179).bind fun bt180 => ((spec_ReadNum.f k t179).bind fun bt182 => (if bt180.1 = bt182.1 then (if (bt180.2 != bt182.2) = true then (laws_FnNums.j0 k t179 bt180.1 bt180.2 bt182.1 bt182.2 true) else (laws_FnNums.j0 k t179 bt180.1 bt180.2 bt182.1 bt182.2 (!bt180.2))) else (laws_FnNums.j0 k t179 bt180.1 bt180.2 bt182.1 bt182.2 true))))))) = some r := h
  clear h
  replace H := Option.bind_eq_some_iff.mp H
  obtain ⟨t178, A20, H⟩ := H
  replace H : (if t178 = true then (some true) else ((spec_DrawReadNum.f k l0).bind fun t179 => ((impl_ReadNum.f k t179).bind fun bt180 => ((spec_ReadNum.f k t179).bind fun bt182 => (if bt180.1 = bt182.1 then (if (bt180.2 != bt182.2) = true then (laws_FnNums.j0 k t179 bt180.1 bt180.2 bt182.1 bt182.2 true) else (laws_FnNums.j0 k t179 bt180.1 bt180.2 bt182.1 bt182.2 (!bt180.2))) else (laws_FnNums.j0 k t179 bt180.1 bt180.2 bt182.1 bt182.2 true)))))) = some r := H
  have A2 := Aside0.mk A20
  clear A20
  by_cases c3 : t178 = true
  · subst c3
    have H1 : (some true) = some r := by rw [if_pos rfl] at H; exact H
    clear H
    have H := H1
    clear H1
    obtain rfl := Option.some.inj H
    go_enter Try.func7, Try.ntmps7
    go_wp2_with (first | (go_at_call 16; (with_reducible refine (laws_big.calls _ _ l0 true _ ?side1 ?side2 A2.out).mono ?_); (case side1 => repeat (first | exact HR0.out | (with_reducible refine Kd.C_alloc ?_ _) | (with_reducible refine Kd.C_drewN ?_ _) | (with_reducible refine Kd.C_drew ?_))); (case side2 => exact HC0.out); rintro e w' ⟨rfl, ⟨nd, rfl⟩⟩; (try first | exact ⟨rfl, _, World.drewN_drewN _ _ _⟩ | exact ⟨rfl, _, Eq.trans (World.drewN_drewN _ _ _) (congrArg (World.drewN _) (Nat.add_assoc _ _ _))⟩)))
    repeat (go_quiet (first | (go_at_call 16; (with_reducible refine (laws_big.calls _ _ l0 true _ ?side1 ?side2 A2.out).mono ?_); (case side1 => repeat (first | exact HR0.out | (with_reducible refine Kd.C_alloc ?_ _) | (with_reducible refine Kd.C_drewN ?_ _) | (with_reducible refine Kd.C_drew ?_))); (case side2 => exact HC0.out); rintro e w' ⟨rfl, ⟨nd, rfl⟩⟩; (try first | exact ⟨rfl, _, World.drewN_drewN _ _ _⟩ | exact ⟨rfl, _, Eq.trans (World.drewN_drewN _ _ _) (congrArg (World.drewN _) (Nat.add_assoc _ _ _))⟩))); try go_wp2_with (first | (go_at_call 16; (with_reducible refine (laws_big.calls _ _ l0 true _ ?side1 ?side2 A2.out).mono ?_); (case side1 => repeat (first | exact HR0.out | (with_reducible refine Kd.C_alloc ?_ _) | (with_reducible refine Kd.C_drewN ?_ _) | (with_reducible refine Kd.C_drew ?_))); (case side2 => exact HC0.out); rintro e w' ⟨rfl, ⟨nd, rfl⟩⟩; (try first | exact ⟨rfl, _, World.drewN_drewN _ _ _⟩ | exact ⟨rfl, _, Eq.trans (World.drewN_drewN _ _ _) (congrArg (World.drewN _) (Nat.add_assoc _ _ _))⟩))))
    go_ret
    exact ⟨by first | rfl | (simp [errW_none, errW_some] <;> rfl) | (simp [*, errW_none, errW_some] <;> rfl) | (exfalso; simp_all; done), by repeat (first | (with_reducible first | exact HB.out | apply below_alloc | apply pw_below_drewN | apply below_drew1) | exact HB.out)⟩
  · replace c3 := Bool.eq_false_iff.mpr c3
    subst c3
    have H1 : ((spec_DrawReadNum.f k l0).bind fun t179 => ((impl_ReadNum.f k t179).bind fun bt180 => ((spec_ReadNum.f k t179).bind fun bt182 => (if bt180.1 = bt182.1 then (if (bt180.2 != bt182.2) = true then (laws_FnNums.j0 k t179 bt180.1 bt180.2 bt182.1 bt182.2 true) else (laws_FnNums.j0 k t179 bt180.1 bt180.2 bt182.1 bt182.2 (!bt180.2))) else (laws_FnNums.j0 k t179 bt180.1 bt180.2 bt182.1 bt182.2 true))))) = some r := by rw [if_neg (show ¬ (false = true) by decide)] at H; exact H
    clear H
    have H := H1
    clear H1
    replace H := Option.bind_eq_some_iff.mp H
    obtain ⟨t179, A40, H⟩ := H
    replace H : ((impl_ReadNum.f k t179).bind fun bt180 => ((spec_ReadNum.f k t179).bind fun bt182 => (if bt180.1 = bt182.1 then (if (bt180.2 != bt182.2) = true then (laws_FnNums.j0 k t179 bt180.1 bt180.2 bt182.1 bt182.2 true) else (laws_FnNums.j0 k t179 bt180.1 bt180.2 bt182.1 bt182.2 (!bt180.2))) else (laws_FnNums.j0 k t179 bt180.1 bt180.2 bt182.1 bt182.2 true)))) = some r := H
    have A4 := Aside0.mk A40
    clear A40
    replace H := Option.bind_eq_some_iff.mp H
    obtain ⟨⟨t180, t181⟩, A50, H⟩ := H
    replace H : ((spec_ReadNum.f k t179).bind fun bt182 => (if t180 = bt182.1 then (if (t181 != bt182.2) = true then (laws_FnNums.j0 k t179 t180 t181 bt182.1 bt182.2 true) else (laws_FnNums.j0 k t179 t180 t181 bt182.1 bt182.2 (!t181))) else (laws_FnNums.j0 k t179 t180 t181 bt182.1 bt182.2 true))) = some r := H
    have A5 := Aside0.mk A50
    clear A50
    replace H := Option.bind_eq_some_iff.mp H
    obtain ⟨⟨t182, t183⟩, A60, H⟩ := H
    replace H : (if t180 = t182 then (if (t181 != t183) = true then (laws_FnNums.j0 k t179 t180 t181 t182 t183 true) else (laws_FnNums.j0 k t179 t180 t181 t182 t183 (!t181))) else (laws_FnNums.j0 k t179 t180 t181 t182 t183 true)) = some r := H
    have A6 := Aside0.mk A60
    clear A60
    have HC7 := Aside0.mk H
    clear H
    go_enter Try.func7, Try.ntmps7
    go_upto_region 6 with (first | (go_at_call 16; (with_reducible refine (laws_big.calls _ _ l0 false _ ?side1 ?side2 A2.out).mono ?_); (case side1 => repeat (first | exact HR0.out | (with_reducible refine Kd.C_alloc ?_ _) | (with_reducible refine Kd.C_drewN ?_ _) | (with_reducible refine Kd.C_drew ?_))); (case side2 => exact HC0.out); rintro e w' ⟨rfl, ⟨nd, rfl⟩⟩; (try first | exact ⟨rfl, _, World.drewN_drewN _ _ _⟩ | exact ⟨rfl, _, Eq.trans (World.drewN_drewN _ _ _) (congrArg (World.drewN _) (Nat.add_assoc _ _ _))⟩)) | (go_at_call 34; (with_reducible refine (spec_DrawReadNum.calls k _ _ l0 t179 _ ?side1 ?side2 A4.out).mono ?_); (case side1 => repeat (first | exact HR0.out | (with_reducible refine Kd.C_alloc ?_ _) | (with_reducible refine Kd.C_drewN ?_ _) | (with_reducible refine Kd.C_drew ?_))); (case side2 => exact HC0.out); rintro e w8 ⟨rfl, hb⟩; have n0_ := Aside0.mk (below_step (by repeat (first | (with_reducible first | exact HB.out | apply below_alloc | apply pw_below_drewN | apply below_drew1) | exact HB.out)) hb); clear HB; have HB := n0_; clear n0_; (try clear hb); (try clear hb2); (try clear hk); (try clear hi)) | (go_at_call 35; (with_reducible refine (impl_ReadNum.calls k t179 t180 t181 _ A5.out).mono ?_); rintro e w' ⟨rfl, ⟨nd, rfl⟩⟩; (try first | exact ⟨rfl, _, World.drewN_drewN _ _ _⟩ | exact ⟨rfl, _, Eq.trans (World.drewN_drewN _ _ _) (congrArg (World.drewN _) (Nat.add_assoc _ _ _))⟩)) | (go_at_call 36; (with_reducible refine (spec_ReadNum.calls k t179 t182 t183 _ A6.out).mono ?_); rintro e w' ⟨rfl, ⟨nd, rfl⟩⟩; (try first | exact ⟨rfl, _, World.drewN_drewN _ _ _⟩ | exact ⟨rfl, _, Eq.trans (World.drewN_drewN _ _ _) (congrArg (World.drewN _) (Nat.add_assoc _ _ _))⟩)))
    repeat (go_quiet (first | (go_at_call 16; (with_reducible refine (laws_big.calls _ _ l0 false _ ?side1 ?side2 A2.out).mono ?_); (case side1 => repeat (first | exact HR0.out | (with_reducible refine Kd.C_alloc ?_ _) | (with_reducible refine Kd.C_drewN ?_ _) | (with_reducible refine Kd.C_drew ?_))); (case side2 => exact HC0.out); rintro e w' ⟨rfl, ⟨nd, rfl⟩⟩; (try first | exact ⟨rfl, _, World.drewN_drewN _ _ _⟩ | exact ⟨rfl, _, Eq.trans (World.drewN_drewN _ _ _) (congrArg (World.drewN _) (Nat.add_assoc _ _ _))⟩)) | (go_at_call 34; (with_reducible refine (spec_DrawReadNum.calls k _ _ l0 t179 _ ?side1 ?side2 A4.out).mono ?_); (case side1 => repeat (first | exact HR0.out | (with_reducible refine Kd.C_alloc ?_ _) | (with_reducible refine Kd.C_drewN ?_ _) | (with_reducible refine Kd.C_drew ?_))); (case side2 => exact HC0.out); rintro e w8 ⟨rfl, hb⟩; have n0_ := Aside0.mk (below_step (by repeat (first | (with_reducible first | exact HB.out | apply below_alloc | apply pw_below_drewN | apply below_drew1) | exact HB.out)) hb); clear HB; have HB := n0_; clear n0_; (try clear hb); (try clear hb2); (try clear hk); (try clear hi)) | (go_at_call 35; (with_reducible refine (impl_ReadNum.calls k t179 t180 t181 _ A5.out).mono ?_); rintro e w' ⟨rfl, ⟨nd, rfl⟩⟩; (try first | exact ⟨rfl, _, World.drewN_drewN _ _ _⟩ | exact ⟨rfl, _, Eq.trans (World.drewN_drewN _ _ _) (congrArg (World.drewN _) (Nat.add_assoc _ _ _))⟩)) | (go_at_call 36; (with_reducible refine (spec_ReadNum.calls k t179 t182 t183 _ A6.out).mono ?_); rintro e w' ⟨rfl, ⟨nd, rfl⟩⟩; (try first | exact ⟨rfl, _, World.drewN_drewN _ _ _⟩ | exact ⟨rfl, _, Eq.trans (World.drewN_drewN _ _ _) (congrArg (World.drewN _) (Nat.add_assoc _ _ _))⟩))); go_upto_region 6 with (first | (go_at_call 16; (with_reducible refine (laws_big.calls _ _ l0 false _ ?side1 ?side2 A2.out).mono ?_); (case side1 => repeat (first | exact HR0.out | (with_reducible refine Kd.C_alloc ?_ _) | (with_reducible refine Kd.C_drewN ?_ _) | (with_reducible refine Kd.C_drew ?_))); (case side2 => exact HC0.out); rintro e w' ⟨rfl, ⟨nd, rfl⟩⟩; (try first | exact ⟨rfl, _, World.drewN_drewN _ _ _⟩ | exact ⟨rfl, _, Eq.trans (World.drewN_drewN _ _ _) (congrArg (World.drewN _) (Nat.add_assoc _ _ _))⟩)) | (go_at_call 34; (with_reducible refine (spec_DrawReadNum.calls k _ _ l0 t179 _ ?side1 ?side2 A4.out).mono ?_); (case side1 => repeat (first | exact HR0.out | (with_reducible refine Kd.C_alloc ?_ _) | (with_reducible refine Kd.C_drewN ?_ _) | (with_reducible refine Kd.C_drew ?_))); (case side2 => exact HC0.out); rintro e w8 ⟨rfl, hb⟩; have n0_ := Aside0.mk (below_step (by repeat (first | (with_reducible first | exact HB.out | apply below_alloc | apply pw_below_drewN | apply below_drew1) | exact HB.out)) hb); clear HB; have HB := n0_; clear n0_; (try clear hb); (try clear hb2); (try clear hk); (try clear hi)) | (go_at_call 35; (with_reducible refine (impl_ReadNum.calls k t179 t180 t181 _ A5.out).mono ?_); rintro e w' ⟨rfl, ⟨nd, rfl⟩⟩; (try first | exact ⟨rfl, _, World.drewN_drewN _ _ _⟩ | exact ⟨rfl, _, Eq.trans (World.drewN_drewN _ _ _) (congrArg (World.drewN _) (Nat.add_assoc _ _ _))⟩)) | (go_at_call 36; (with_reducible refine (spec_ReadNum.calls k t179 t182 t183 _ A6.out).mono ?_); rintro e w' ⟨rfl, ⟨nd, rfl⟩⟩; (try first | exact ⟨rfl, _, World.drewN_drewN _ _ _⟩ | exact ⟨rfl, _, Eq.trans (World.drewN_drewN _ _ _) (congrArg (World.drewN _) (Nat.add_assoc _ _ _))⟩))))
    (try simp only [Act.put, List.setIfInBounds_toArray, List.set_cons_zero, List.set_cons_succ])
    go_cut [36] (fun v36 wc => ∃ (kq : Nat) (x36_6 : Bool), v36 = .bool x36_6 ∧ Aside0 (laws_FnNums.j0 kq t179 t180 t181 t182 t183 x36_6 = some r) ∧ Aside0 (kq ≤ k) ∧ Aside0 (Below w.heap.size w wc))
    case first =>
      have H := HC7.out
      clear HC7
      by_cases c9 : t180 = t182
      · rw [if_pos c9] at H
        have c9b0 : (t180 == t182) = true := beq_iff_eq.mpr c9
        have c9b1 : (t180 != t182) = false := bne_eq_false_iff_eq.mpr c9
        clear c9
        (first | rw [c9b0] | (simp only [i64_w, i32_w]; rw [c9b0]) | skip)
        by_cases c10 : (t181 != t183) = true
        · rw [if_pos c10] at H
          have c10b0 : (t181 != t183) = true := c10
          (try (have c10b1 : decide (t181 = t183) = false := by simpa using c10))
          (try (have c10b2 : (t181 == t183) = false := by simpa using c10))
          (try (have c10b3 : ¬ (t181 = t183) := by simpa using c10))
          clear c10
          have H' := Aside0.mk H
          clear H
          go_wp2
          repeat (go_quiet (fail); try go_wp2)
          go_meet
          case rel => exact ⟨_, (true), (by first | rfl | (simp; done) | (simp [*]; done) | (simp; decide +kernel) | (simp [wrap64]; done) | (simp [bne]; done)), H', ⟨by first | omega | exact Nat.le_refl _⟩, ⟨by repeat (first | (with_reducible first | exact HB.out | apply below_alloc | apply pw_below_drewN | apply below_drew1) | exact HB.out)⟩⟩
        · rw [if_neg c10] at H
          have c10b0 : (t181 != t183) = false := by simpa using c10
          (try (have c10b1 : decide (t181 = t183) = true := by simpa using c10))
          (try (have c10b2 : (t181 == t183) = true := by simpa using c10))
          clear c10
          have H' := Aside0.mk H
          clear H
          go_wp2
          repeat (go_quiet (fail); try go_wp2)
          go_meet
          case rel => exact ⟨_, (!t181), (by first | rfl | (simp; done) | (simp [*]; done) | (simp; decide +kernel) | (simp [wrap64]; done) | (simp [bne]; done)), H', ⟨by first | omega | exact Nat.le_refl _⟩, ⟨by repeat (first | (with_reducible first | exact HB.out | apply below_alloc | apply pw_below_drewN | apply below_drew1) | exact HB.out)⟩⟩
      · rw [if_neg c9] at H
        have c9b0 : (t180 == t182) = false := beq_eq_false_iff_ne.mpr c9
        have c9b1 : (t180 != t182) = true := bne_iff_ne.mpr c9
        (first | rw [c9b0] | (simp only [i64_w, i32_w]; rw [c9b0]) | skip)
        have H' := Aside0.mk H
        clear H
        go_wp2
        repeat (go_quiet (fail); try go_wp2)
        go_meet
        case rel => exact ⟨_, (true), (by first | rfl | (simp; done) | (simp [*]; done) | (simp; decide +kernel) | (simp [wrap64]; done) | (simp [bne]; done)), H', ⟨by first | omega | exact Nat.le_refl _⟩, ⟨by repeat (first | (with_reducible first | exact HB.out | apply below_alloc | apply pw_below_drewN | apply below_drew1) | exact HB.out)⟩⟩
    case rest =>
      clear HC7
      try clear c1
      try clear p2
      try clear c3
      try clear p6
      try clear c7
      try clear c9
      try clear c9b0
      try clear c9b1
      try clear c10
      try clear c10b0
      try clear c10b1
      try clear c10b2
      obtain ⟨kq, x36_6, rfl, HA, HJ6, HB⟩ := hcut
      cases kq with
      | zero => exact absurd HA.out (by simp [laws_FnNums.j0])
      | succ kj6 =>
        have H := HA.out
        clear HA
        simp only [laws_FnNums.j0] at H
        by_cases c11 : x36_6 = true
        · subst c11
          have H1 : (if t180 = t182 then (some (t181 == t183)) else (some false)) = some r := by rw [if_pos rfl] at H; exact H
          clear H
          have H := H1
          clear H1
          by_cases c12 : t180 = t182
          · rw [if_pos c12] at H
            have c12b0 : (t180 == t182) = true := beq_iff_eq.mpr c12
            have c12b1 : (t180 != t182) = false := bne_eq_false_iff_eq.mpr c12
            clear c12
            obtain rfl := Option.some.inj H
            go_wp2
            repeat (go_quiet (fail); try go_wp2)
            go_ret
            exact ⟨by first | rfl | (simp [errW_none, errW_some] <;> rfl) | (simp [*, errW_none, errW_some] <;> rfl) | (exfalso; simp_all; done), by repeat (first | (with_reducible first | exact HB.out | apply below_alloc | apply pw_below_drewN | apply below_drew1) | exact HB.out)⟩
          · rw [if_neg c12] at H
            have c12b0 : (t180 == t182) = false := beq_eq_false_iff_ne.mpr c12
            have c12b1 : (t180 != t182) = true := bne_iff_ne.mpr c12
            obtain rfl := Option.some.inj H
            go_wp2
            repeat (go_quiet (fail); try go_wp2)
            go_ret
            exact ⟨by first | rfl | (simp [errW_none, errW_some] <;> rfl) | (simp [*, errW_none, errW_some] <;> rfl) | (exfalso; simp_all; done), by repeat (first | (with_reducible first | exact HB.out | apply below_alloc | apply pw_below_drewN | apply below_drew1) | exact HB.out)⟩
        · replace c11 := Bool.eq_false_iff.mpr c11
          subst c11
          have H1 : (if 1 + t179.size ≤ 9223372036854775807 then (if 0 < (t179.size : Int) then (if (bt t179 0) = 36 then (if 0 ≤ 1 then (if 1 ≤ (t179.size : Int) then (if (t179.extract 0 1).size + 1 ≤ 9223372036854775807 then (if ((t179.extract 0 1) ++ (⟨#[48]⟩ : ByteArray)).size + (t179.extract 1 t179.size).size ≤ 9223372036854775807 then ((impl_ReadNum.f kj6 (((t179.extract 0 1) ++ (⟨#[48]⟩ : ByteArray)) ++ (t179.extract 1 t179.size))).bind fun bt184 => (if t180 ≥ 0 then (if t180 ≤ 65535 then (if ((((t179.extract 0 1) ++ (⟨#[48]⟩ : ByteArray)) ++ (t179.extract 1 t179.size)).size : Int) > 18 then (some true) else (if bt184.2 = true then (some (bt184.1 == t180)) else (some false))) else (some false)) else (some false))) else (none)) else (none)) else (none)) else (none)) else (if (bt t179 0) = 37 then (if 0 ≤ 1 then (if 1 ≤ (t179.size : Int) then (if (t179.extract 0 1).size + 1 ≤ 9223372036854775807 then (if ((t179.extract 0 1) ++ (⟨#[48]⟩ : ByteArray)).size + (t179.extract 1 t179.size).size ≤ 9223372036854775807 then ((impl_ReadNum.f kj6 (((t179.extract 0 1) ++ (⟨#[48]⟩ : ByteArray)) ++ (t179.extract 1 t179.size))).bind fun bt186 => (if t180 ≥ 0 then (if t180 ≤ 65535 then (if ((((t179.extract 0 1) ++ (⟨#[48]⟩ : ByteArray)) ++ (t179.extract 1 t179.size)).size : Int) > 18 then (some true) else (if bt186.2 = true then (some (bt186.1 == t180)) else (some false))) else (some false)) else (some false))) else (none)) else (none)) else (none)) else (none)) else ((impl_ReadNum.f kj6 ((⟨#[48]⟩ : ByteArray) ++ t179)).bind fun bt188 => (if t180 ≥ 0 then (if t180 ≤ 65535 then (if (((⟨#[48]⟩ : ByteArray) ++ t179).size : Int) > 18 then (some true) else (if bt188.2 = true then (some (bt188.1 == t180)) else (some false))) else (some false)) else (some false))))) else (none)) else (none)) = some r := by rw [if_neg (show ¬ (false = true) by decide)] at H; exact H
          clear H
          have H := H1
          clear H1
          by_cases c13 : 1 + t179.size ≤ 9223372036854775807
          · rw [if_pos c13] at H
            have c13b0 := eq_true c13
            have c13b1 : decide (1 + t179.size ≤ 9223372036854775807) = true := decide_eq_true c13
            try have c13b2 : (9223372036854775807 < 1 + t179.size) = False := eq_false (Nat.not_lt.2 c13)
            by_cases c14 : 0 < (t179.size : Int)
            · rw [if_pos c14] at H
              have c14b0 : decide (0 < (t179.size : Int)) = true := decide_eq_true c14
              have c14b1 : decide (0 < t179.size) = true := decide_eq_true (by omega)
              clear c14
              by_cases c16 : (bt t179 0) = 36
              · rw [if_pos c16] at H
                have c16b0 : ((bt t179 0) == 36) = true := beq_iff_eq.mpr c16
                have c16b1 : ((bt t179 0) != 36) = false := bne_eq_false_iff_eq.mpr c16
                clear c16
                by_cases c17 : 0 ≤ 1
                · rw [if_pos c17] at H
                  have c17b0 := eq_true c17
                  have c17b1 : decide (0 ≤ 1) = true := decide_eq_true c17
                  clear c17
                  by_cases c18 : 1 ≤ (t179.size : Int)
                  · rw [if_pos c18] at H
                    have c18b0 := eq_true c18
                    have c18b1 : decide (1 ≤ (t179.size : Int)) = true := decide_eq_true c18
                    clear c18
                    by_cases c19 : (t179.extract 0 1).size + 1 ≤ 9223372036854775807
                    · rw [if_pos c19] at H
                      have c19b0 := eq_true c19
                      (try (have c19b0e := c19b0; simp only [ByteArray.size_append, ByteArray.size_extract, Nat.min_self, Nat.sub_zero] at c19b0e))
                      have c19b1 : decide ((t179.extract 0 1).size + 1 ≤ 9223372036854775807) = true := decide_eq_true c19
                      (try (have c19b1e := c19b1; simp only [ByteArray.size_append, ByteArray.size_extract, Nat.min_self, Nat.sub_zero] at c19b1e))
                      try have c19b2 : (9223372036854775807 < (t179.extract 0 1).size + 1) = False := eq_false (Nat.not_lt.2 c19)
                      (try (have c19b2e := c19b2; simp only [ByteArray.size_append, ByteArray.size_extract, Nat.min_self, Nat.sub_zero] at c19b2e))
                      have c20b0 := eq_true (of_decide_eq_true (by first | (with_reducible assumption) | assumption) : 1 ≤ (t179.size : Int))
                      by_cases c21 : ((t179.extract 0 1) ++ (⟨#[48]⟩ : ByteArray)).size + (t179.extract 1 t179.size).size ≤ 9223372036854775807
                      · rw [if_pos c21] at H
                        have c21b0 := eq_true c21
                        (try (have c21b0e := c21b0; simp only [ByteArray.size_append, ByteArray.size_extract, Nat.min_self, Nat.sub_zero, show (⟨#[48]⟩ : ByteArray).size = 1 from rfl] at c21b0e))
                        have c21b1 : decide (((t179.extract 0 1) ++ (⟨#[48]⟩ : ByteArray)).size + (t179.extract 1 t179.size).size ≤ 9223372036854775807) = true := decide_eq_true c21
                        (try (have c21b1e := c21b1; simp only [ByteArray.size_append, ByteArray.size_extract, Nat.min_self, Nat.sub_zero, show (⟨#[48]⟩ : ByteArray).size = 1 from rfl] at c21b1e))
                        try have c21b2 : (9223372036854775807 < ((t179.extract 0 1) ++ (⟨#[48]⟩ : ByteArray)).size + (t179.extract 1 t179.size).size) = False := eq_false (Nat.not_lt.2 c21)
                        (try (have c21b2e := c21b2; simp only [ByteArray.size_append, ByteArray.size_extract, Nat.min_self, Nat.sub_zero, show (⟨#[48]⟩ : ByteArray).size = 1 from rfl] at c21b2e))
                        replace H := Option.bind_eq_some_iff.mp H
                        obtain ⟨⟨t184, t185⟩, A220, H⟩ := H
                        replace H : (if t180 ≥ 0 then (if t180 ≤ 65535 then (if ((((t179.extract 0 1) ++ (⟨#[48]⟩ : ByteArray)) ++ (t179.extract 1 t179.size)).size : Int) > 18 then (some true) else (if t185 = true then (some (t184 == t180)) else (some false))) else (some false)) else (some false)) = some r := H
                        have A22 := Aside0.mk A220
                        clear A220
                        by_cases c23 : t180 ≥ 0
                        · rw [if_pos c23] at H
                          have c23b0 : decide (0 ≤ t180) = true := decide_eq_true c23
                          clear c23
                          by_cases c24 : t180 ≤ 65535
                          · rw [if_pos c24] at H
                            have c24b0 : decide (t180 ≤ 65535) = true := decide_eq_true c24
                            clear c24
                            by_cases c25 : ((((t179.extract 0 1) ++ (⟨#[48]⟩ : ByteArray)) ++ (t179.extract 1 t179.size)).size : Int) > 18
                            · rw [if_pos c25] at H
                              have c25b0 : decide (18 < ((((t179.extract 0 1) ++ (⟨#[48]⟩ : ByteArray)) ++ (t179.extract 1 t179.size)).size : Int)) = true := decide_eq_true c25
                              (try (have c25b0e := c25b0; simp only [ByteArray.size_append, ByteArray.size_extract, Nat.min_self, Nat.sub_zero, show (⟨#[48]⟩ : ByteArray).size = 1 from rfl] at c25b0e))
                              (try (have c25b0eg := c25b0e; simp only [Int.natCast_add, Int.natCast_one, Int.cast_ofNat_Int] at c25b0eg))
                              (try (have c25b0fg := c25b0f; simp only [Int.natCast_add, Int.natCast_one, Int.cast_ofNat_Int] at c25b0fg))
                              have c25b1 : decide (18 < (((t179.extract 0 1) ++ (⟨#[48]⟩ : ByteArray)) ++ (t179.extract 1 t179.size)).size) = true := decide_eq_true (by omega)
                              (try (have c25b1e := c25b1; simp only [ByteArray.size_append, ByteArray.size_extract, Nat.min_self, Nat.sub_zero, show (⟨#[48]⟩ : ByteArray).size = 1 from rfl] at c25b1e))
                              (try (have c25b1eg := c25b1e; simp only [Int.natCast_add, Int.natCast_one, Int.cast_ofNat_Int] at c25b1eg))
                              (try (have c25b1fg := c25b1f; simp only [Int.natCast_add, Int.natCast_one, Int.cast_ofNat_Int] at c25b1fg))
                              clear c25
                              obtain rfl := Option.some.inj H
                              have p15 : 0 ≤ (0 : Int) := (by omega)
                              have q15 : 0 < t179.size := (by have : (0 : Int) < (t179.size : Int) := of_decide_eq_true (by first | (with_reducible assumption) | assumption); omega)
                              have hx15 : ∀ h : 0 < t179.size, ((t179[0]'h).toNat : Int) = bt t179 0 := bt_at t179 0
                              clear p15
                              have qi15 : (0 < (t179.size : Int)) = True := eq_true (of_decide_eq_true (by first | (with_reducible assumption) | assumption))
                              replace q15 := eq_true q15
                              go_wp2_with (first | (go_at_call 35; (with_reducible refine (impl_ReadNum.calls kj6 (((t179.extract 0 1) ++ (⟨#[48]⟩ : ByteArray)) ++ (t179.extract 1 t179.size)) t184 t185 _ A22.out).mono ?_); rintro e w' ⟨rfl, ⟨nd, rfl⟩⟩; (try first | exact ⟨rfl, _, World.drewN_drewN _ _ _⟩ | exact ⟨rfl, _, Eq.trans (World.drewN_drewN _ _ _) (congrArg (World.drewN _) (Nat.add_assoc _ _ _))⟩)))
                              repeat (go_quiet (first | (go_at_call 35; (with_reducible refine (impl_ReadNum.calls kj6 (((t179.extract 0 1) ++ (⟨#[48]⟩ : ByteArray)) ++ (t179.extract 1 t179.size)) t184 t185 _ A22.out).mono ?_); rintro e w' ⟨rfl, ⟨nd, rfl⟩⟩; (try first | exact ⟨rfl, _, World.drewN_drewN _ _ _⟩ | exact ⟨rfl, _, Eq.trans (World.drewN_drewN _ _ _) (congrArg (World.drewN _) (Nat.add_assoc _ _ _))⟩))); try go_wp2_with (first | (go_at_call 35; (with_reducible refine (impl_ReadNum.calls kj6 (((t179.extract 0 1) ++ (⟨#[48]⟩ : ByteArray)) ++ (t179.extract 1 t179.size)) t184 t185 _ A22.out).mono ?_); rintro e w' ⟨rfl, ⟨nd, rfl⟩⟩; (try first | exact ⟨rfl, _, World.drewN_drewN _ _ _⟩ | exact ⟨rfl, _, Eq.trans (World.drewN_drewN _ _ _) (congrArg (World.drewN _) (Nat.add_assoc _ _ _))⟩))))
                              go_ret
                              exact ⟨by first | rfl | (simp [errW_none, errW_some] <;> rfl) | (simp [*, errW_none, errW_some] <;> rfl) | (exfalso; simp_all; done), by repeat (first | (with_reducible first | exact HB.out | apply below_alloc | apply pw_below_drewN | apply below_drew1) | exact HB.out)⟩
                            · rw [if_neg c25] at H
                              have c25b0 : decide (18 < ((((t179.extract 0 1) ++ (⟨#[48]⟩ : ByteArray)) ++ (t179.extract 1 t179.size)).size : Int)) = false := decide_eq_false c25
                              (try (have c25b0e := c25b0; simp only [ByteArray.size_append, ByteArray.size_extract, Nat.min_self, Nat.sub_zero, show (⟨#[48]⟩ : ByteArray).size = 1 from rfl] at c25b0e))
                              (try (have c25b0eg := c25b0e; simp only [Int.natCast_add, Int.natCast_one, Int.cast_ofNat_Int] at c25b0eg))
                              (try (have c25b0fg := c25b0f; simp only [Int.natCast_add, Int.natCast_one, Int.cast_ofNat_Int] at c25b0fg))
                              have c25b1 : decide (18 < (((t179.extract 0 1) ++ (⟨#[48]⟩ : ByteArray)) ++ (t179.extract 1 t179.size)).size) = false := decide_eq_false (by omega)
                              (try (have c25b1e := c25b1; simp only [ByteArray.size_append, ByteArray.size_extract, Nat.min_self, Nat.sub_zero, show (⟨#[48]⟩ : ByteArray).size = 1 from rfl] at c25b1e))
                              (try (have c25b1eg := c25b1e; simp only [Int.natCast_add, Int.natCast_one, Int.cast_ofNat_Int] at c25b1eg))
                              (try (have c25b1fg := c25b1f; simp only [Int.natCast_add, Int.natCast_one, Int.cast_ofNat_Int] at c25b1fg))
                              clear c25
                              by_cases c26 : t185 = true
                              · subst c26
                                have H1 : (some (t184 == t180)) = some r := by rw [if_pos rfl] at H; exact H
                                clear H
                                have H := H1
                                clear H1
                                obtain rfl := Option.some.inj H
                                have p15 : 0 ≤ (0 : Int) := (by omega)
                                have q15 : 0 < t179.size := (by have : (0 : Int) < (t179.size : Int) := of_decide_eq_true (by first | (with_reducible assumption) | assumption); omega)
                                have hx15 : ∀ h : 0 < t179.size, ((t179[0]'h).toNat : Int) = bt t179 0 := bt_at t179 0
                                clear p15
                                have qi15 : (0 < (t179.size : Int)) = True := eq_true (of_decide_eq_true (by first | (with_reducible assumption) | assumption))
                                replace q15 := eq_true q15
                                go_wp2_with (first | (go_at_call 35; (with_reducible refine (impl_ReadNum.calls kj6 (((t179.extract 0 1) ++ (⟨#[48]⟩ : ByteArray)) ++ (t179.extract 1 t179.size)) t184 true _ A22.out).mono ?_); rintro e w' ⟨rfl, ⟨nd, rfl⟩⟩; (try first | exact ⟨rfl, _, World.drewN_drewN _ _ _⟩ | exact ⟨rfl, _, Eq.trans (World.drewN_drewN _ _ _) (congrArg (World.drewN _) (Nat.add_assoc _ _ _))⟩)))
                                repeat (go_quiet (first | (go_at_call 35; (with_reducible refine (impl_ReadNum.calls kj6 (((t179.extract 0 1) ++ (⟨#[48]⟩ : ByteArray)) ++ (t179.extract 1 t179.size)) t184 true _ A22.out).mono ?_); rintro e w' ⟨rfl, ⟨nd, rfl⟩⟩; (try first | exact ⟨rfl, _, World.drewN_drewN _ _ _⟩ | exact ⟨rfl, _, Eq.trans (World.drewN_drewN _ _ _) (congrArg (World.drewN _) (Nat.add_assoc _ _ _))⟩))); try go_wp2_with (first | (go_at_call 35; (with_reducible refine (impl_ReadNum.calls kj6 (((t179.extract 0 1) ++ (⟨#[48]⟩ : ByteArray)) ++ (t179.extract 1 t179.size)) t184 true _ A22.out).mono ?_); rintro e w' ⟨rfl, ⟨nd, rfl⟩⟩; (try first | exact ⟨rfl, _, World.drewN_drewN _ _ _⟩ | exact ⟨rfl, _, Eq.trans (World.drewN_drewN _ _ _) (congrArg (World.drewN _) (Nat.add_assoc _ _ _))⟩))))
                                go_ret
                                exact ⟨by first | rfl | (simp [errW_none, errW_some] <;> rfl) | (simp [*, errW_none, errW_some] <;> rfl) | (exfalso; simp_all; done), by repeat (first | (with_reducible first | exact HB.out | apply below_alloc | apply pw_below_drewN | apply below_drew1) | exact HB.out)⟩
                              · replace c26 := Bool.eq_false_iff.mpr c26
                                subst c26
                                have H1 : (some false) = some r := by rw [if_neg (show ¬ (false = true) by decide)] at H; exact H
                                clear H
                                have H := H1
                                clear H1
                                obtain rfl := Option.some.inj H
                                have p15 : 0 ≤ (0 : Int) := (by omega)
                                have q15 : 0 < t179.size := (by have : (0 : Int) < (t179.size : Int) := of_decide_eq_true (by first | (with_reducible assumption) | assumption); omega)
                                have hx15 : ∀ h : 0 < t179.size, ((t179[0]'h).toNat : Int) = bt t179 0 := bt_at t179 0
                                clear p15
                                have qi15 : (0 < (t179.size : Int)) = True := eq_true (of_decide_eq_true (by first | (with_reducible assumption) | assumption))
                                replace q15 := eq_true q15
                                go_wp2_with (first | (go_at_call 35; (with_reducible refine (impl_ReadNum.calls kj6 (((t179.extract 0 1) ++ (⟨#[48]⟩ : ByteArray)) ++ (t179.extract 1 t179.size)) t184 false _ A22.out).mono ?_); rintro e w' ⟨rfl, ⟨nd, rfl⟩⟩; (try first | exact ⟨rfl, _, World.drewN_drewN _ _ _⟩ | exact ⟨rfl, _, Eq.trans (World.drewN_drewN _ _ _) (congrArg (World.drewN _) (Nat.add_assoc _ _ _))⟩)))
                                repeat (go_quiet (first | (go_at_call 35; (with_reducible refine (impl_ReadNum.calls kj6 (((t179.extract 0 1) ++ (⟨#[48]⟩ : ByteArray)) ++ (t179.extract 1 t179.size)) t184 false _ A22.out).mono ?_); rintro e w' ⟨rfl, ⟨nd, rfl⟩⟩; (try first | exact ⟨rfl, _, World.drewN_drewN _ _ _⟩ | exact ⟨rfl, _, Eq.trans (World.drewN_drewN _ _ _) (congrArg (World.drewN _) (Nat.add_assoc _ _ _))⟩))); try go_wp2_with (first | (go_at_call 35; (with_reducible refine (impl_ReadNum.calls kj6 (((t179.extract 0 1) ++ (⟨#[48]⟩ : ByteArray)) ++ (t179.extract 1 t179.size)) t184 false _ A22.out).mono ?_); rintro e w' ⟨rfl, ⟨nd, rfl⟩⟩; (try first | exact ⟨rfl, _, World.drewN_drewN _ _ _⟩ | exact ⟨rfl, _, Eq.trans (World.drewN_drewN _ _ _) (congrArg (World.drewN _) (Nat.add_assoc _ _ _))⟩))))
                                go_ret
                                exact ⟨by first | rfl | (simp [errW_none, errW_some] <;> rfl) | (simp [*, errW_none, errW_some] <;> rfl) | (exfalso; simp_all; done), by repeat (first | (with_reducible first | exact HB.out | apply below_alloc | apply pw_below_drewN | apply below_drew1) | exact HB.out)⟩
                          · rw [if_neg c24] at H
                            have c24b0 : decide (t180 ≤ 65535) = false := decide_eq_false c24
                            clear c24
                            obtain rfl := Option.some.inj H
                            have p15 : 0 ≤ (0 : Int) := (by omega)
                            have q15 : 0 < t179.size := (by have : (0 : Int) < (t179.size : Int) := of_decide_eq_true (by first | (with_reducible assumption) | assumption); omega)
                            have hx15 : ∀ h : 0 < t179.size, ((t179[0]'h).toNat : Int) = bt t179 0 := bt_at t179 0
                            clear p15
                            have qi15 : (0 < (t179.size : Int)) = True := eq_true (of_decide_eq_true (by first | (with_reducible assumption) | assumption))
                            replace q15 := eq_true q15
                            go_wp2_with (first | (go_at_call 35; (with_reducible refine (impl_ReadNum.calls kj6 (((t179.extract 0 1) ++ (⟨#[48]⟩ : ByteArray)) ++ (t179.extract 1 t179.size)) t184 t185 _ A22.out).mono ?_); rintro e w' ⟨rfl, ⟨nd, rfl⟩⟩; (try first | exact ⟨rfl, _, World.drewN_drewN _ _ _⟩ | exact ⟨rfl, _, Eq.trans (World.drewN_drewN _ _ _) (congrArg (World.drewN _) (Nat.add_assoc _ _ _))⟩)))
                            repeat (go_quiet (first | (go_at_call 35; (with_reducible refine (impl_ReadNum.calls kj6 (((t179.extract 0 1) ++ (⟨#[48]⟩ : ByteArray)) ++ (t179.extract 1 t179.size)) t184 t185 _ A22.out).mono ?_); rintro e w' ⟨rfl, ⟨nd, rfl⟩⟩; (try first | exact ⟨rfl, _, World.drewN_drewN _ _ _⟩ | exact ⟨rfl, _, Eq.trans (World.drewN_drewN _ _ _) (congrArg (World.drewN _) (Nat.add_assoc _ _ _))⟩))); try go_wp2_with (first | (go_at_call 35; (with_reducible refine (impl_ReadNum.calls kj6 (((t179.extract 0 1) ++ (⟨#[48]⟩ : ByteArray)) ++ (t179.extract 1 t179.size)) t184 t185 _ A22.out).mono ?_); rintro e w' ⟨rfl, ⟨nd, rfl⟩⟩; (try first | exact ⟨rfl, _, World.drewN_drewN _ _ _⟩ | exact ⟨rfl, _, Eq.trans (World.drewN_drewN _ _ _) (congrArg (World.drewN _) (Nat.add_assoc _ _ _))⟩))))
                            go_ret
                            exact ⟨by first | rfl | (simp [errW_none, errW_some] <;> rfl) | (simp [*, errW_none, errW_some] <;> rfl) | (exfalso; simp_all; done), by repeat (first | (with_reducible first | exact HB.out | apply below_alloc | apply pw_below_drewN | apply below_drew1) | exact HB.out)⟩
                        · rw [if_neg c23] at H
                          have c23b0 : decide (0 ≤ t180) = false := decide_eq_false c23
                          clear c23
                          obtain rfl := Option.some.inj H
                          have p15 : 0 ≤ (0 : Int) := (by omega)
                          have q15 : 0 < t179.size := (by have : (0 : Int) < (t179.size : Int) := of_decide_eq_true (by first | (with_reducible assumption) | assumption); omega)
                          have hx15 : ∀ h : 0 < t179.size, ((t179[0]'h).toNat : Int) = bt t179 0 := bt_at t179 0
                          clear p15
                          have qi15 : (0 < (t179.size : Int)) = True := eq_true (of_decide_eq_true (by first | (with_reducible assumption) | assumption))
                          replace q15 := eq_true q15
                          go_wp2_with (first | (go_at_call 35; (with_reducible refine (impl_ReadNum.calls kj6 (((t179.extract 0 1) ++ (⟨#[48]⟩ : ByteArray)) ++ (t179.extract 1 t179.size)) t184 t185 _ A22.out).mono ?_); rintro e w' ⟨rfl, ⟨nd, rfl⟩⟩; (try first | exact ⟨rfl, _, World.drewN_drewN _ _ _⟩ | exact ⟨rfl, _, Eq.trans (World.drewN_drewN _ _ _) (congrArg (World.drewN _) (Nat.add_assoc _ _ _))⟩)))
                          repeat (go_quiet (first | (go_at_call 35; (with_reducible refine (impl_ReadNum.calls kj6 (((t179.extract 0 1) ++ (⟨#[48]⟩ : ByteArray)) ++ (t179.extract 1 t179.size)) t184 t185 _ A22.out).mono ?_); rintro e w' ⟨rfl, ⟨nd, rfl⟩⟩; (try first | exact ⟨rfl, _, World.drewN_drewN _ _ _⟩ | exact ⟨rfl, _, Eq.trans (World.drewN_drewN _ _ _) (congrArg (World.drewN _) (Nat.add_assoc _ _ _))⟩))); try go_wp2_with (first | (go_at_call 35; (with_reducible refine (impl_ReadNum.calls kj6 (((t179.extract 0 1) ++ (⟨#[48]⟩ : ByteArray)) ++ (t179.extract 1 t179.size)) t184 t185 _ A22.out).mono ?_); rintro e w' ⟨rfl, ⟨nd, rfl⟩⟩; (try first | exact ⟨rfl, _, World.drewN_drewN _ _ _⟩ | exact ⟨rfl, _, Eq.trans (World.drewN_drewN _ _ _) (congrArg (World.drewN _) (Nat.add_assoc _ _ _))⟩))))
                          go_ret
                          exact ⟨by first | rfl | (simp [errW_none, errW_some] <;> rfl) | (simp [*, errW_none, errW_some] <;> rfl) | (exfalso; simp_all; done), by repeat (first | (with_reducible first | exact HB.out | apply below_alloc | apply pw_below_drewN | apply below_drew1) | exact HB.out)⟩
                      · rw [if_neg c21] at H
                        exact absurd H (by simp)
                    · rw [if_neg c19] at H
                      exact absurd H (by simp)
                  · rw [if_neg c18] at H
                    exact absurd H (by simp)
                · rw [if_neg c17] at H
                  exact absurd H (by simp)
              · rw [if_neg c16] at H
                have c16b0 : ((bt t179 0) == 36) = false := beq_eq_false_iff_ne.mpr c16
                have c16b1 : ((bt t179 0) != 36) = true := bne_iff_ne.mpr c16
                by_cases c28 : (bt t179 0) = 37
                · rw [if_pos c28] at H
                  have c28b0 : ((bt t179 0) == 37) = true := beq_iff_eq.mpr c28
                  have c28b1 : ((bt t179 0) != 37) = false := bne_eq_false_iff_eq.mpr c28
                  clear c28
                  by_cases c29 : 0 ≤ 1
                  · rw [if_pos c29] at H
                    have c29b0 := eq_true c29
                    have c29b1 : decide (0 ≤ 1) = true := decide_eq_true c29
                    clear c29
                    by_cases c30 : 1 ≤ (t179.size : Int)
                    · rw [if_pos c30] at H
                      have c30b0 := eq_true c30
                      have c30b1 : decide (1 ≤ (t179.size : Int)) = true := decide_eq_true c30
                      clear c30
                      by_cases c31 : (t179.extract 0 1).size + 1 ≤ 9223372036854775807
                      · rw [if_pos c31] at H
                        have c31b0 := eq_true c31
                        (try (have c31b0e := c31b0; simp only [ByteArray.size_append, ByteArray.size_extract, Nat.min_self, Nat.sub_zero] at c31b0e))
                        have c31b1 : decide ((t179.extract 0 1).size + 1 ≤ 9223372036854775807) = true := decide_eq_true c31
                        (try (have c31b1e := c31b1; simp only [ByteArray.size_append, ByteArray.size_extract, Nat.min_self, Nat.sub_zero] at c31b1e))
                        try have c31b2 : (9223372036854775807 < (t179.extract 0 1).size + 1) = False := eq_false (Nat.not_lt.2 c31)
                        (try (have c31b2e := c31b2; simp only [ByteArray.size_append, ByteArray.size_extract, Nat.min_self, Nat.sub_zero] at c31b2e))
                        have c32b0 := eq_true (of_decide_eq_true (by first | (with_reducible assumption) | assumption) : 1 ≤ (t179.size : Int))
                        by_cases c33 : ((t179.extract 0 1) ++ (⟨#[48]⟩ : ByteArray)).size + (t179.extract 1 t179.size).size ≤ 9223372036854775807
                        · rw [if_pos c33] at H
                          have c33b0 := eq_true c33
                          (try (have c33b0e := c33b0; simp only [ByteArray.size_append, ByteArray.size_extract, Nat.min_self, Nat.sub_zero, show (⟨#[48]⟩ : ByteArray).size = 1 from rfl] at c33b0e))
                          have c33b1 : decide (((t179.extract 0 1) ++ (⟨#[48]⟩ : ByteArray)).size + (t179.extract 1 t179.size).size ≤ 9223372036854775807) = true := decide_eq_true c33
                          (try (have c33b1e := c33b1; simp only [ByteArray.size_append, ByteArray.size_extract, Nat.min_self, Nat.sub_zero, show (⟨#[48]⟩ : ByteArray).size = 1 from rfl] at c33b1e))
                          try have c33b2 : (9223372036854775807 < ((t179.extract 0 1) ++ (⟨#[48]⟩ : ByteArray)).size + (t179.extract 1 t179.size).size) = False := eq_false (Nat.not_lt.2 c33)
                          (try (have c33b2e := c33b2; simp only [ByteArray.size_append, ByteArray.size_extract, Nat.min_self, Nat.sub_zero, show (⟨#[48]⟩ : ByteArray).size = 1 from rfl] at c33b2e))
                          replace H := Option.bind_eq_some_iff.mp H
                          obtain ⟨⟨t186, t187⟩, A340, H⟩ := H
                          replace H : (if t180 ≥ 0 then (if t180 ≤ 65535 then (if ((((t179.extract 0 1) ++ (⟨#[48]⟩ : ByteArray)) ++ (t179.extract 1 t179.size)).size : Int) > 18 then (some true) else (if t187 = true then (some (t186 == t180)) else (some false))) else (some false)) else (some false)) = some r := H
                          have A34 := Aside0.mk A340
                          clear A340
                          by_cases c35 : t180 ≥ 0
                          · rw [if_pos c35] at H
                            have c35b0 : decide (0 ≤ t180) = true := decide_eq_true c35
                            clear c35
                            by_cases c36 : t180 ≤ 65535
                            · rw [if_pos c36] at H
                              have c36b0 : decide (t180 ≤ 65535) = true := decide_eq_true c36
                              clear c36
                              by_cases c37 : ((((t179.extract 0 1) ++ (⟨#[48]⟩ : ByteArray)) ++ (t179.extract 1 t179.size)).size : Int) > 18
                              · rw [if_pos c37] at H
                                have c37b0 : decide (18 < ((((t179.extract 0 1) ++ (⟨#[48]⟩ : ByteArray)) ++ (t179.extract 1 t179.size)).size : Int)) = true := decide_eq_true c37
                                (try (have c37b0e := c37b0; simp only [ByteArray.size_append, ByteArray.size_extract, Nat.min_self, Nat.sub_zero, show (⟨#[48]⟩ : ByteArray).size = 1 from rfl] at c37b0e))
                                (try (have c37b0eg := c37b0e; simp only [Int.natCast_add, Int.natCast_one, Int.cast_ofNat_Int] at c37b0eg))
                                (try (have c37b0fg := c37b0f; simp only [Int.natCast_add, Int.natCast_one, Int.cast_ofNat_Int] at c37b0fg))
                                have c37b1 : decide (18 < (((t179.extract 0 1) ++ (⟨#[48]⟩ : ByteArray)) ++ (t179.extract 1 t179.size)).size) = true := decide_eq_true (by omega)
                                (try (have c37b1e := c37b1; simp only [ByteArray.size_append, ByteArray.size_extract, Nat.min_self, Nat.sub_zero, show (⟨#[48]⟩ : ByteArray).size = 1 from rfl] at c37b1e))
                                (try (have c37b1eg := c37b1e; simp only [Int.natCast_add, Int.natCast_one, Int.cast_ofNat_Int] at c37b1eg))
                                (try (have c37b1fg := c37b1f; simp only [Int.natCast_add, Int.natCast_one, Int.cast_ofNat_Int] at c37b1fg))
                                clear c37
                                obtain rfl := Option.some.inj H
                                have p15 : 0 ≤ (0 : Int) := (by omega)
                                have q15 : 0 < t179.size := (by have : (0 : Int) < (t179.size : Int) := of_decide_eq_true (by first | (with_reducible assumption) | assumption); omega)
                                have hx15 : ∀ h : 0 < t179.size, ((t179[0]'h).toNat : Int) = bt t179 0 := bt_at t179 0
                                clear p15
                                have qi15 : (0 < (t179.size : Int)) = True := eq_true (of_decide_eq_true (by first | (with_reducible assumption) | assumption))
                                replace q15 := eq_true q15
                                have p27 : 0 ≤ (0 : Int) := (by omega)
                                have q27 : 0 < t179.size := (by have : (0 : Int) < (t179.size : Int) := of_decide_eq_true (by first | (with_reducible assumption) | assumption); omega)
                                have hx27 : ∀ h : 0 < t179.size, ((t179[0]'h).toNat : Int) = bt t179 0 := bt_at t179 0
                                clear p27
                                have qi27 : (0 < (t179.size : Int)) = True := eq_true (of_decide_eq_true (by first | (with_reducible assumption) | assumption))
                                replace q27 := eq_true q27
                                go_wp2_with (first | (go_at_call 35; (with_reducible refine (impl_ReadNum.calls kj6 (((t179.extract 0 1) ++ (⟨#[48]⟩ : ByteArray)) ++ (t179.extract 1 t179.size)) t186 t187 _ A34.out).mono ?_); rintro e w' ⟨rfl, ⟨nd, rfl⟩⟩; (try first | exact ⟨rfl, _, World.drewN_drewN _ _ _⟩ | exact ⟨rfl, _, Eq.trans (World.drewN_drewN _ _ _) (congrArg (World.drewN _) (Nat.add_assoc _ _ _))⟩)))
                                repeat (go_quiet (first | (go_at_call 35; (with_reducible refine (impl_ReadNum.calls kj6 (((t179.extract 0 1) ++ (⟨#[48]⟩ : ByteArray)) ++ (t179.extract 1 t179.size)) t186 t187 _ A34.out).mono ?_); rintro e w' ⟨rfl, ⟨nd, rfl⟩⟩; (try first | exact ⟨rfl, _, World.drewN_drewN _ _ _⟩ | exact ⟨rfl, _, Eq.trans (World.drewN_drewN _ _ _) (congrArg (World.drewN _) (Nat.add_assoc _ _ _))⟩))); try go_wp2_with (first | (go_at_call 35; (with_reducible refine (impl_ReadNum.calls kj6 (((t179.extract 0 1) ++ (⟨#[48]⟩ : ByteArray)) ++ (t179.extract 1 t179.size)) t186 t187 _ A34.out).mono ?_); rintro e w' ⟨rfl, ⟨nd, rfl⟩⟩; (try first | exact ⟨rfl, _, World.drewN_drewN _ _ _⟩ | exact ⟨rfl, _, Eq.trans (World.drewN_drewN _ _ _) (congrArg (World.drewN _) (Nat.add_assoc _ _ _))⟩))))
                                go_ret
                                exact ⟨by first | rfl | (simp [errW_none, errW_some] <;> rfl) | (simp [*, errW_none, errW_some] <;> rfl) | (exfalso; simp_all; done), by repeat (first | (with_reducible first | exact HB.out | apply below_alloc | apply pw_below_drewN | apply below_drew1) | exact HB.out)⟩
                              · rw [if_neg c37] at H
                                have c37b0 : decide (18 < ((((t179.extract 0 1) ++ (⟨#[48]⟩ : ByteArray)) ++ (t179.extract 1 t179.size)).size : Int)) = false := decide_eq_false c37
                                (try (have c37b0e := c37b0; simp only [ByteArray.size_append, ByteArray.size_extract, Nat.min_self, Nat.sub_zero, show (⟨#[48]⟩ : ByteArray).size = 1 from rfl] at c37b0e))
                                (try (have c37b0eg := c37b0e; simp only [Int.natCast_add, Int.natCast_one, Int.cast_ofNat_Int] at c37b0eg))
                                (try (have c37b0fg := c37b0f; simp only [Int.natCast_add, Int.natCast_one, Int.cast_ofNat_Int] at c37b0fg))
                                have c37b1 : decide (18 < (((t179.extract 0 1) ++ (⟨#[48]⟩ : ByteArray)) ++ (t179.extract 1 t179.size)).size) = false := decide_eq_false (by omega)
                                (try (have c37b1e := c37b1; simp only [ByteArray.size_append, ByteArray.size_extract, Nat.min_self, Nat.sub_zero, show (⟨#[48]⟩ : ByteArray).size = 1 from rfl] at c37b1e))
                                (try (have c37b1eg := c37b1e; simp only [Int.natCast_add, Int.natCast_one, Int.cast_ofNat_Int] at c37b1eg))
                                (try (have c37b1fg := c37b1f; simp only [Int.natCast_add, Int.natCast_one, Int.cast_ofNat_Int] at c37b1fg))
                                clear c37
                                by_cases c38 : t187 = true
                                · subst c38
                                  have H1 : (some (t186 == t180)) = some r := by rw [if_pos rfl] at H; exact H
                                  clear H
                                  have H := H1
                                  clear H1
                                  obtain rfl := Option.some.inj H
                                  have p15 : 0 ≤ (0 : Int) := (by omega)
                                  have q15 : 0 < t179.size := (by have : (0 : Int) < (t179.size : Int) := of_decide_eq_true (by first | (with_reducible assumption) | assumption); omega)
                                  have hx15 : ∀ h : 0 < t179.size, ((t179[0]'h).toNat : Int) = bt t179 0 := bt_at t179 0
                                  clear p15
                                  have qi15 : (0 < (t179.size : Int)) = True := eq_true (of_decide_eq_true (by first | (with_reducible assumption) | assumption))
                                  replace q15 := eq_true q15
                                  have p27 : 0 ≤ (0 : Int) := (by omega)
                                  have q27 : 0 < t179.size := (by have : (0 : Int) < (t179.size : Int) := of_decide_eq_true (by first | (with_reducible assumption) | assumption); omega)
                                  have hx27 : ∀ h : 0 < t179.size, ((t179[0]'h).toNat : Int) = bt t179 0 := bt_at t179 0
                                  clear p27
                                  have qi27 : (0 < (t179.size : Int)) = True := eq_true (of_decide_eq_true (by first | (with_reducible assumption) | assumption))
                                  replace q27 := eq_true q27
                                  go_wp2_with (first | (go_at_call 35; (with_reducible refine (impl_ReadNum.calls kj6 (((t179.extract 0 1) ++ (⟨#[48]⟩ : ByteArray)) ++ (t179.extract 1 t179.size)) t186 true _ A34.out).mono ?_); rintro e w' ⟨rfl, ⟨nd, rfl⟩⟩; (try first | exact ⟨rfl, _, World.drewN_drewN _ _ _⟩ | exact ⟨rfl, _, Eq.trans (World.drewN_drewN _ _ _) (congrArg (World.drewN _) (Nat.add_assoc _ _ _))⟩)))
                                  repeat (go_quiet (first | (go_at_call 35; (with_reducible refine (impl_ReadNum.calls kj6 (((t179.extract 0 1) ++ (⟨#[48]⟩ : ByteArray)) ++ (t179.extract 1 t179.size)) t186 true _ A34.out).mono ?_); rintro e w' ⟨rfl, ⟨nd, rfl⟩⟩; (try first | exact ⟨rfl, _, World.drewN_drewN _ _ _⟩ | exact ⟨rfl, _, Eq.trans (World.drewN_drewN _ _ _) (congrArg (World.drewN _) (Nat.add_assoc _ _ _))⟩))); try go_wp2_with (first | (go_at_call 35; (with_reducible refine (impl_ReadNum.calls kj6 (((t179.extract 0 1) ++ (⟨#[48]⟩ : ByteArray)) ++ (t179.extract 1 t179.size)) t186 true _ A34.out).mono ?_); rintro e w' ⟨rfl, ⟨nd, rfl⟩⟩; (try first | exact ⟨rfl, _, World.drewN_drewN _ _ _⟩ | exact ⟨rfl, _, Eq.trans (World.drewN_drewN _ _ _) (congrArg (World.drewN _) (Nat.add_assoc _ _ _))⟩))))
                                  go_ret
                                  exact ⟨by first | rfl | (simp [errW_none, errW_some] <;> rfl) | (simp [*, errW_none, errW_some] <;> rfl) | (exfalso; simp_all; done), by repeat (first | (with_reducible first | exact HB.out | apply below_alloc | apply pw_below_drewN | apply below_drew1) | exact HB.out)⟩
                                · replace c38 := Bool.eq_false_iff.mpr c38
                                  subst c38
                                  have H1 : (some false) = some r := by rw [if_neg (show ¬ (false = true) by decide)] at H; exact H
                                  clear H
                                  have H := H1
                                  clear H1
                                  obtain rfl := Option.some.inj H
                                  have p15 : 0 ≤ (0 : Int) := (by omega)
                                  have q15 : 0 < t179.size := (by have : (0 : Int) < (t179.size : Int) := of_decide_eq_true (by first | (with_reducible assumption) | assumption); omega)
                                  have hx15 : ∀ h : 0 < t179.size, ((t179[0]'h).toNat : Int) = bt t179 0 := bt_at t179 0
                                  clear p15
                                  have qi15 : (0 < (t179.size : Int)) = True := eq_true (of_decide_eq_true (by first | (with_reducible assumption) | assumption))
                                  replace q15 := eq_true q15
                                  have p27 : 0 ≤ (0 : Int) := (by omega)
                                  have q27 : 0 < t179.size := (by have : (0 : Int) < (t179.size : Int) := of_decide_eq_true (by first | (with_reducible assumption) | assumption); omega)
                                  have hx27 : ∀ h : 0 < t179.size, ((t179[0]'h).toNat : Int) = bt t179 0 := bt_at t179 0
                                  clear p27
                                  have qi27 : (0 < (t179.size : Int)) = True := eq_true (of_decide_eq_true (by first | (with_reducible assumption) | assumption))
                                  replace q27 := eq_true q27
                                  go_wp2_with (first | (go_at_call 35; (with_reducible refine (impl_ReadNum.calls kj6 (((t179.extract 0 1) ++ (⟨#[48]⟩ : ByteArray)) ++ (t179.extract 1 t179.size)) t186 false _ A34.out).mono ?_); rintro e w' ⟨rfl, ⟨nd, rfl⟩⟩; (try first | exact ⟨rfl, _, World.drewN_drewN _ _ _⟩ | exact ⟨rfl, _, Eq.trans (World.drewN_drewN _ _ _) (congrArg (World.drewN _) (Nat.add_assoc _ _ _))⟩)))
                                  repeat (go_quiet (first | (go_at_call 35; (with_reducible refine (impl_ReadNum.calls kj6 (((t179.extract 0 1) ++ (⟨#[48]⟩ : ByteArray)) ++ (t179.extract 1 t179.size)) t186 false _ A34.out).mono ?_); rintro e w' ⟨rfl, ⟨nd, rfl⟩⟩; (try first | exact ⟨rfl, _, World.drewN_drewN _ _ _⟩ | exact ⟨rfl, _, Eq.trans (World.drewN_drewN _ _ _) (congrArg (World.drewN _) (Nat.add_assoc _ _ _))⟩))); try go_wp2_with (first | (go_at_call 35; (with_reducible refine (impl_ReadNum.calls kj6 (((t179.extract 0 1) ++ (⟨#[48]⟩ : ByteArray)) ++ (t179.extract 1 t179.size)) t186 false _ A34.out).mono ?_); rintro e w' ⟨rfl, ⟨nd, rfl⟩⟩; (try first | exact ⟨rfl, _, World.drewN_drewN _ _ _⟩ | exact ⟨rfl, _, Eq.trans (World.drewN_drewN _ _ _) (congrArg (World.drewN _) (Nat.add_assoc _ _ _))⟩))))
                                  go_ret
                                  exact ⟨by first | rfl | (simp [errW_none, errW_some] <;> rfl) | (simp [*, errW_none, errW_some] <;> rfl) | (exfalso; simp_all; done), by repeat (first | (with_reducible first | exact HB.out | apply below_alloc | apply pw_below_drewN | apply below_drew1) | exact HB.out)⟩
                            · rw [if_neg c36] at H
                              have c36b0 : decide (t180 ≤ 65535) = false := decide_eq_false c36
                              clear c36
                              obtain rfl := Option.some.inj H
                              have p15 : 0 ≤ (0 : Int) := (by omega)
                              have q15 : 0 < t179.size := (by have : (0 : Int) < (t179.size : Int) := of_decide_eq_true (by first | (with_reducible assumption) | assumption); omega)
                              have hx15 : ∀ h : 0 < t179.size, ((t179[0]'h).toNat : Int) = bt t179 0 := bt_at t179 0
                              clear p15
                              have qi15 : (0 < (t179.size : Int)) = True := eq_true (of_decide_eq_true (by first | (with_reducible assumption) | assumption))
                              replace q15 := eq_true q15
                              have p27 : 0 ≤ (0 : Int) := (by omega)
                              have q27 : 0 < t179.size := (by have : (0 : Int) < (t179.size : Int) := of_decide_eq_true (by first | (with_reducible assumption) | assumption); omega)
                              have hx27 : ∀ h : 0 < t179.size, ((t179[0]'h).toNat : Int) = bt t179 0 := bt_at t179 0
                              clear p27
                              have qi27 : (0 < (t179.size : Int)) = True := eq_true (of_decide_eq_true (by first | (with_reducible assumption) | assumption))
                              replace q27 := eq_true q27
                              go_wp2_with (first | (go_at_call 35; (with_reducible refine (impl_ReadNum.calls kj6 (((t179.extract 0 1) ++ (⟨#[48]⟩ : ByteArray)) ++ (t179.extract 1 t179.size)) t186 t187 _ A34.out).mono ?_); rintro e w' ⟨rfl, ⟨nd, rfl⟩⟩; (try first | exact ⟨rfl, _, World.drewN_drewN _ _ _⟩ | exact ⟨rfl, _, Eq.trans (World.drewN_drewN _ _ _) (congrArg (World.drewN _) (Nat.add_assoc _ _ _))⟩)))
                              repeat (go_quiet (first | (go_at_call 35; (with_reducible refine (impl_ReadNum.calls kj6 (((t179.extract 0 1) ++ (⟨#[48]⟩ : ByteArray)) ++ (t179.extract 1 t179.size)) t186 t187 _ A34.out).mono ?_); rintro e w' ⟨rfl, ⟨nd, rfl⟩⟩; (try first | exact ⟨rfl, _, World.drewN_drewN _ _ _⟩ | exact ⟨rfl, _, Eq.trans (World.drewN_drewN _ _ _) (congrArg (World.drewN _) (Nat.add_assoc _ _ _))⟩))); try go_wp2_with (first | (go_at_call 35; (with_reducible refine (impl_ReadNum.calls kj6 (((t179.extract 0 1) ++ (⟨#[48]⟩ : ByteArray)) ++ (t179.extract 1 t179.size)) t186 t187 _ A34.out).mono ?_); rintro e w' ⟨rfl, ⟨nd, rfl⟩⟩; (try first | exact ⟨rfl, _, World.drewN_drewN _ _ _⟩ | exact ⟨rfl, _, Eq.trans (World.drewN_drewN _ _ _) (congrArg (World.drewN _) (Nat.add_assoc _ _ _))⟩))))
                              go_ret
                              exact ⟨by first | rfl | (simp [errW_none, errW_some] <;> rfl) | (simp [*, errW_none, errW_some] <;> rfl) | (exfalso; simp_all; done), by repeat (first | (with_reducible first | exact HB.out | apply below_alloc | apply pw_below_drewN | apply below_drew1) | exact HB.out)⟩
                          · rw [if_neg c35] at H
                            have c35b0 : decide (0 ≤ t180) = false := decide_eq_false c35
                            clear c35
                            obtain rfl := Option.some.inj H
                            have p15 : 0 ≤ (0 : Int) := (by omega)
                            have q15 : 0 < t179.size := (by have : (0 : Int) < (t179.size : Int) := of_decide_eq_true (by first | (with_reducible assumption) | assumption); omega)
                            have hx15 : ∀ h : 0 < t179.size, ((t179[0]'h).toNat : Int) = bt t179 0 := bt_at t179 0
                            clear p15
                            have qi15 : (0 < (t179.size : Int)) = True := eq_true (of_decide_eq_true (by first | (with_reducible assumption) | assumption))
                            replace q15 := eq_true q15
                            have p27 : 0 ≤ (0 : Int) := (by omega)
                            have q27 : 0 < t179.size := (by have : (0 : Int) < (t179.size : Int) := of_decide_eq_true (by first | (with_reducible assumption) | assumption); omega)
                            have hx27 : ∀ h : 0 < t179.size, ((t179[0]'h).toNat : Int) = bt t179 0 := bt_at t179 0
                            clear p27
                            have qi27 : (0 < (t179.size : Int)) = True := eq_true (of_decide_eq_true (by first | (with_reducible assumption) | assumption))
                            replace q27 := eq_true q27
                            go_wp2_with (first | (go_at_call 35; (with_reducible refine (impl_ReadNum.calls kj6 (((t179.extract 0 1) ++ (⟨#[48]⟩ : ByteArray)) ++ (t179.extract 1 t179.size)) t186 t187 _ A34.out).mono ?_); rintro e w' ⟨rfl, ⟨nd, rfl⟩⟩; (try first | exact ⟨rfl, _, World.drewN_drewN _ _ _⟩ | exact ⟨rfl, _, Eq.trans (World.drewN_drewN _ _ _) (congrArg (World.drewN _) (Nat.add_assoc _ _ _))⟩)))
                            repeat (go_quiet (first | (go_at_call 35; (with_reducible refine (impl_ReadNum.calls kj6 (((t179.extract 0 1) ++ (⟨#[48]⟩ : ByteArray)) ++ (t179.extract 1 t179.size)) t186 t187 _ A34.out).mono ?_); rintro e w' ⟨rfl, ⟨nd, rfl⟩⟩; (try first | exact ⟨rfl, _, World.drewN_drewN _ _ _⟩ | exact ⟨rfl, _, Eq.trans (World.drewN_drewN _ _ _) (congrArg (World.drewN _) (Nat.add_assoc _ _ _))⟩))); try go_wp2_with (first | (go_at_call 35; (with_reducible refine (impl_ReadNum.calls kj6 (((t179.extract 0 1) ++ (⟨#[48]⟩ : ByteArray)) ++ (t179.extract 1 t179.size)) t186 t187 _ A34.out).mono ?_); rintro e w' ⟨rfl, ⟨nd, rfl⟩⟩; (try first | exact ⟨rfl, _, World.drewN_drewN _ _ _⟩ | exact ⟨rfl, _, Eq.trans (World.drewN_drewN _ _ _) (congrArg (World.drewN _) (Nat.add_assoc _ _ _))⟩))))
                            go_ret
                            exact ⟨by first | rfl | (simp [errW_none, errW_some] <;> rfl) | (simp [*, errW_none, errW_some] <;> rfl) | (exfalso; simp_all; done), by repeat (first | (with_reducible first | exact HB.out | apply below_alloc | apply pw_below_drewN | apply below_drew1) | exact HB.out)⟩
                        · rw [if_neg c33] at H
                          exact absurd H (by simp)
                      · rw [if_neg c31] at H
                        exact absurd H (by simp)
                    · rw [if_neg c30] at H
                      exact absurd H (by simp)
                  · rw [if_neg c29] at H
                    exact absurd H (by simp)
                · rw [if_neg c28] at H
                  have c28b0 : ((bt t179 0) == 37) = false := beq_eq_false_iff_ne.mpr c28
                  have c28b1 : ((bt t179 0) != 37) = true := bne_iff_ne.mpr c28
                  replace H := Option.bind_eq_some_iff.mp H
                  obtain ⟨⟨t188, t189⟩, A390, H⟩ := H
                  replace H : (if t180 ≥ 0 then (if t180 ≤ 65535 then (if (((⟨#[48]⟩ : ByteArray) ++ t179).size : Int) > 18 then (some true) else (if t189 = true then (some (t188 == t180)) else (some false))) else (some false)) else (some false)) = some r := H
                  have A39 := Aside0.mk A390
                  clear A390
                  by_cases c40 : t180 ≥ 0
                  · rw [if_pos c40] at H
                    have c40b0 : decide (0 ≤ t180) = true := decide_eq_true c40
                    clear c40
                    by_cases c41 : t180 ≤ 65535
                    · rw [if_pos c41] at H
                      have c41b0 : decide (t180 ≤ 65535) = true := decide_eq_true c41
                      clear c41
                      by_cases c42 : (((⟨#[48]⟩ : ByteArray) ++ t179).size : Int) > 18
                      · rw [if_pos c42] at H
                        have c42b0 : decide (18 < (((⟨#[48]⟩ : ByteArray) ++ t179).size : Int)) = true := decide_eq_true c42
                        (try (have c42b0e := c42b0; simp only [ByteArray.size_append, ByteArray.size_extract, Nat.min_self, Nat.sub_zero, show (⟨#[48]⟩ : ByteArray).size = 1 from rfl] at c42b0e))
                        (try (have c42b0eg := c42b0e; simp only [Int.natCast_add, Int.natCast_one, Int.cast_ofNat_Int] at c42b0eg))
                        (try (have c42b0fg := c42b0f; simp only [Int.natCast_add, Int.natCast_one, Int.cast_ofNat_Int] at c42b0fg))
                        have c42b1 : decide (18 < ((⟨#[48]⟩ : ByteArray) ++ t179).size) = true := decide_eq_true (by omega)
                        (try (have c42b1e := c42b1; simp only [ByteArray.size_append, ByteArray.size_extract, Nat.min_self, Nat.sub_zero, show (⟨#[48]⟩ : ByteArray).size = 1 from rfl] at c42b1e))
                        (try (have c42b1eg := c42b1e; simp only [Int.natCast_add, Int.natCast_one, Int.cast_ofNat_Int] at c42b1eg))
                        (try (have c42b1fg := c42b1f; simp only [Int.natCast_add, Int.natCast_one, Int.cast_ofNat_Int] at c42b1fg))
                        clear c42
                        obtain rfl := Option.some.inj H
                        have p15 : 0 ≤ (0 : Int) := (by omega)
                        have q15 : 0 < t179.size := (by have : (0 : Int) < (t179.size : Int) := of_decide_eq_true (by first | (with_reducible assumption) | assumption); omega)
                        have hx15 : ∀ h : 0 < t179.size, ((t179[0]'h).toNat : Int) = bt t179 0 := bt_at t179 0
                        clear p15
                        have qi15 : (0 < (t179.size : Int)) = True := eq_true (of_decide_eq_true (by first | (with_reducible assumption) | assumption))
                        replace q15 := eq_true q15
                        have p27 : 0 ≤ (0 : Int) := (by omega)
                        have q27 : 0 < t179.size := (by have : (0 : Int) < (t179.size : Int) := of_decide_eq_true (by first | (with_reducible assumption) | assumption); omega)
                        have hx27 : ∀ h : 0 < t179.size, ((t179[0]'h).toNat : Int) = bt t179 0 := bt_at t179 0
                        clear p27
                        have qi27 : (0 < (t179.size : Int)) = True := eq_true (of_decide_eq_true (by first | (with_reducible assumption) | assumption))
                        replace q27 := eq_true q27
                        go_wp2_with (first | (go_at_call 35; (with_reducible refine (impl_ReadNum.calls kj6 ((⟨#[48]⟩ : ByteArray) ++ t179) t188 t189 _ A39.out).mono ?_); rintro e w' ⟨rfl, ⟨nd, rfl⟩⟩; (try first | exact ⟨rfl, _, World.drewN_drewN _ _ _⟩ | exact ⟨rfl, _, Eq.trans (World.drewN_drewN _ _ _) (congrArg (World.drewN _) (Nat.add_assoc _ _ _))⟩)))
                        repeat (go_quiet (first | (go_at_call 35; (with_reducible refine (impl_ReadNum.calls kj6 ((⟨#[48]⟩ : ByteArray) ++ t179) t188 t189 _ A39.out).mono ?_); rintro e w' ⟨rfl, ⟨nd, rfl⟩⟩; (try first | exact ⟨rfl, _, World.drewN_drewN _ _ _⟩ | exact ⟨rfl, _, Eq.trans (World.drewN_drewN _ _ _) (congrArg (World.drewN _) (Nat.add_assoc _ _ _))⟩))); try go_wp2_with (first | (go_at_call 35; (with_reducible refine (impl_ReadNum.calls kj6 ((⟨#[48]⟩ : ByteArray) ++ t179) t188 t189 _ A39.out).mono ?_); rintro e w' ⟨rfl, ⟨nd, rfl⟩⟩; (try first | exact ⟨rfl, _, World.drewN_drewN _ _ _⟩ | exact ⟨rfl, _, Eq.trans (World.drewN_drewN _ _ _) (congrArg (World.drewN _) (Nat.add_assoc _ _ _))⟩))))
                        go_ret
                        exact ⟨by first | rfl | (simp [errW_none, errW_some] <;> rfl) | (simp [*, errW_none, errW_some] <;> rfl) | (exfalso; simp_all; done), by repeat (first | (with_reducible first | exact HB.out | apply below_alloc | apply pw_below_drewN | apply below_drew1) | exact HB.out)⟩
                      · rw [if_neg c42] at H
                        have c42b0 : decide (18 < (((⟨#[48]⟩ : ByteArray) ++ t179).size : Int)) = false := decide_eq_false c42
                        (try (have c42b0e := c42b0; simp only [ByteArray.size_append, ByteArray.size_extract, Nat.min_self, Nat.sub_zero, show (⟨#[48]⟩ : ByteArray).size = 1 from rfl] at c42b0e))
                        (try (have c42b0eg := c42b0e; simp only [Int.natCast_add, Int.natCast_one, Int.cast_ofNat_Int] at c42b0eg))
                        (try (have c42b0fg := c42b0f; simp only [Int.natCast_add, Int.natCast_one, Int.cast_ofNat_Int] at c42b0fg))
                        have c42b1 : decide (18 < ((⟨#[48]⟩ : ByteArray) ++ t179).size) = false := decide_eq_false (by omega)
                        (try (have c42b1e := c42b1; simp only [ByteArray.size_append, ByteArray.size_extract, Nat.min_self, Nat.sub_zero, show (⟨#[48]⟩ : ByteArray).size = 1 from rfl] at c42b1e))
                        (try (have c42b1eg := c42b1e; simp only [Int.natCast_add, Int.natCast_one, Int.cast_ofNat_Int] at c42b1eg))
                        (try (have c42b1fg := c42b1f; simp only [Int.natCast_add, Int.natCast_one, Int.cast_ofNat_Int] at c42b1fg))
                        clear c42
                        by_cases c43 : t189 = true
                        · subst c43
                          have H1 : (some (t188 == t180)) = some r := by rw [if_pos rfl] at H; exact H
                          clear H
                          have H := H1
                          clear H1
                          obtain rfl := Option.some.inj H
                          have p15 : 0 ≤ (0 : Int) := (by omega)
                          have q15 : 0 < t179.size := (by have : (0 : Int) < (t179.size : Int) := of_decide_eq_true (by first | (with_reducible assumption) | assumption); omega)
                          have hx15 : ∀ h : 0 < t179.size, ((t179[0]'h).toNat : Int) = bt t179 0 := bt_at t179 0
                          clear p15
                          have qi15 : (0 < (t179.size : Int)) = True := eq_true (of_decide_eq_true (by first | (with_reducible assumption) | assumption))
                          replace q15 := eq_true q15
                          have p27 : 0 ≤ (0 : Int) := (by omega)
                          have q27 : 0 < t179.size := (by have : (0 : Int) < (t179.size : Int) := of_decide_eq_true (by first | (with_reducible assumption) | assumption); omega)
                          have hx27 : ∀ h : 0 < t179.size, ((t179[0]'h).toNat : Int) = bt t179 0 := bt_at t179 0
                          clear p27
                          have qi27 : (0 < (t179.size : Int)) = True := eq_true (of_decide_eq_true (by first | (with_reducible assumption) | assumption))
                          replace q27 := eq_true q27
                          go_wp2_with (first | (go_at_call 35; (with_reducible refine (impl_ReadNum.calls kj6 ((⟨#[48]⟩ : ByteArray) ++ t179) t188 true _ A39.out).mono ?_); rintro e w' ⟨rfl, ⟨nd, rfl⟩⟩; (try first | exact ⟨rfl, _, World.drewN_drewN _ _ _⟩ | exact ⟨rfl, _, Eq.trans (World.drewN_drewN _ _ _) (congrArg (World.drewN _) (Nat.add_assoc _ _ _))⟩)))
                          repeat (go_quiet (first | (go_at_call 35; (with_reducible refine (impl_ReadNum.calls kj6 ((⟨#[48]⟩ : ByteArray) ++ t179) t188 true _ A39.out).mono ?_); rintro e w' ⟨rfl, ⟨nd, rfl⟩⟩; (try first | exact ⟨rfl, _, World.drewN_drewN _ _ _⟩ | exact ⟨rfl, _, Eq.trans (World.drewN_drewN _ _ _) (congrArg (World.drewN _) (Nat.add_assoc _ _ _))⟩))); try go_wp2_with (first | (go_at_call 35; (with_reducible refine (impl_ReadNum.calls kj6 ((⟨#[48]⟩ : ByteArray) ++ t179) t188 true _ A39.out).mono ?_); rintro e w' ⟨rfl, ⟨nd, rfl⟩⟩; (try first | exact ⟨rfl, _, World.drewN_drewN _ _ _⟩ | exact ⟨rfl, _, Eq.trans (World.drewN_drewN _ _ _) (congrArg (World.drewN _) (Nat.add_assoc _ _ _))⟩))))
                          go_ret
                          exact ⟨by first | rfl | (simp [errW_none, errW_some] <;> rfl) | (simp [*, errW_none, errW_some] <;> rfl) | (exfalso; simp_all; done), by repeat (first | (with_reducible first | exact HB.out | apply below_alloc | apply pw_below_drewN | apply below_drew1) | exact HB.out)⟩
                        · replace c43 := Bool.eq_false_iff.mpr c43
                          subst c43
                          have H1 : (some false) = some r := by rw [if_neg (show ¬ (false = true) by decide)] at H; exact H
                          clear H
                          have H := H1
                          clear H1
                          obtain rfl := Option.some.inj H
                          have p15 : 0 ≤ (0 : Int) := (by omega)
                          have q15 : 0 < t179.size := (by have : (0 : Int) < (t179.size : Int) := of_decide_eq_true (by first | (with_reducible assumption) | assumption); omega)
                          have hx15 : ∀ h : 0 < t179.size, ((t179[0]'h).toNat : Int) = bt t179 0 := bt_at t179 0
                          clear p15
                          have qi15 : (0 < (t179.size : Int)) = True := eq_true (of_decide_eq_true (by first | (with_reducible assumption) | assumption))
                          replace q15 := eq_true q15
                          have p27 : 0 ≤ (0 : Int) := (by omega)
                          have q27 : 0 < t179.size := (by have : (0 : Int) < (t179.size : Int) := of_decide_eq_true (by first | (with_reducible assumption) | assumption); omega)
                          have hx27 : ∀ h : 0 < t179.size, ((t179[0]'h).toNat : Int) = bt t179 0 := bt_at t179 0
                          clear p27
                          have qi27 : (0 < (t179.size : Int)) = True := eq_true (of_decide_eq_true (by first | (with_reducible assumption) | assumption))
                          replace q27 := eq_true q27
                          go_wp2_with (first | (go_at_call 35; (with_reducible refine (impl_ReadNum.calls kj6 ((⟨#[48]⟩ : ByteArray) ++ t179) t188 false _ A39.out).mono ?_); rintro e w' ⟨rfl, ⟨nd, rfl⟩⟩; (try first | exact ⟨rfl, _, World.drewN_drewN _ _ _⟩ | exact ⟨rfl, _, Eq.trans (World.drewN_drewN _ _ _) (congrArg (World.drewN _) (Nat.add_assoc _ _ _))⟩)))
                          repeat (go_quiet (first | (go_at_call 35; (with_reducible refine (impl_ReadNum.calls kj6 ((⟨#[48]⟩ : ByteArray) ++ t179) t188 false _ A39.out).mono ?_); rintro e w' ⟨rfl, ⟨nd, rfl⟩⟩; (try first | exact ⟨rfl, _, World.drewN_drewN _ _ _⟩ | exact ⟨rfl, _, Eq.trans (World.drewN_drewN _ _ _) (congrArg (World.drewN _) (Nat.add_assoc _ _ _))⟩))); try go_wp2_with (first | (go_at_call 35; (with_reducible refine (impl_ReadNum.calls kj6 ((⟨#[48]⟩ : ByteArray) ++ t179) t188 false _ A39.out).mono ?_); rintro e w' ⟨rfl, ⟨nd, rfl⟩⟩; (try first | exact ⟨rfl, _, World.drewN_drewN _ _ _⟩ | exact ⟨rfl, _, Eq.trans (World.drewN_drewN _ _ _) (congrArg (World.drewN _) (Nat.add_assoc _ _ _))⟩))))
                          go_ret
                          exact ⟨by first | rfl | (simp [errW_none, errW_some] <;> rfl) | (simp [*, errW_none, errW_some] <;> rfl) | (exfalso; simp_all; done), by repeat (first | (with_reducible first | exact HB.out | apply below_alloc | apply pw_below_drewN | apply below_drew1) | exact HB.out)⟩
                    · rw [if_neg c41] at H
                      have c41b0 : decide (t180 ≤ 65535) = false := decide_eq_false c41
                      clear c41
                      obtain rfl := Option.some.inj H
                      have p15 : 0 ≤ (0 : Int) := (by omega)
                      have q15 : 0 < t179.size := (by have : (0 : Int) < (t179.size : Int) := of_decide_eq_true (by first | (with_reducible assumption) | assumption); omega)
                      have hx15 : ∀ h : 0 < t179.size, ((t179[0]'h).toNat : Int) = bt t179 0 := bt_at t179 0
                      clear p15
                      have qi15 : (0 < (t179.size : Int)) = True := eq_true (of_decide_eq_true (by first | (with_reducible assumption) | assumption))
                      replace q15 := eq_true q15
                      have p27 : 0 ≤ (0 : Int) := (by omega)
                      have q27 : 0 < t179.size := (by have : (0 : Int) < (t179.size : Int) := of_decide_eq_true (by first | (with_reducible assumption) | assumption); omega)
                      have hx27 : ∀ h : 0 < t179.size, ((t179[0]'h).toNat : Int) = bt t179 0 := bt_at t179 0
                      clear p27
                      have qi27 : (0 < (t179.size : Int)) = True := eq_true (of_decide_eq_true (by first | (with_reducible assumption) | assumption))
                      replace q27 := eq_true q27
                      go_wp2_with (first | (go_at_call 35; (with_reducible refine (impl_ReadNum.calls kj6 ((⟨#[48]⟩ : ByteArray) ++ t179) t188 t189 _ A39.out).mono ?_); rintro e w' ⟨rfl, ⟨nd, rfl⟩⟩; (try first | exact ⟨rfl, _, World.drewN_drewN _ _ _⟩ | exact ⟨rfl, _, Eq.trans (World.drewN_drewN _ _ _) (congrArg (World.drewN _) (Nat.add_assoc _ _ _))⟩)))
                      repeat (go_quiet (first | (go_at_call 35; (with_reducible refine (impl_ReadNum.calls kj6 ((⟨#[48]⟩ : ByteArray) ++ t179) t188 t189 _ A39.out).mono ?_); rintro e w' ⟨rfl, ⟨nd, rfl⟩⟩; (try first | exact ⟨rfl, _, World.drewN_drewN _ _ _⟩ | exact ⟨rfl, _, Eq.trans (World.drewN_drewN _ _ _) (congrArg (World.drewN _) (Nat.add_assoc _ _ _))⟩))); try go_wp2_with (first | (go_at_call 35; (with_reducible refine (impl_ReadNum.calls kj6 ((⟨#[48]⟩ : ByteArray) ++ t179) t188 t189 _ A39.out).mono ?_); rintro e w' ⟨rfl, ⟨nd, rfl⟩⟩; (try first | exact ⟨rfl, _, World.drewN_drewN _ _ _⟩ | exact ⟨rfl, _, Eq.trans (World.drewN_drewN _ _ _) (congrArg (World.drewN _) (Nat.add_assoc _ _ _))⟩))))
                      go_ret
                      exact ⟨by first | rfl | (simp [errW_none, errW_some] <;> rfl) | (simp [*, errW_none, errW_some] <;> rfl) | (exfalso; simp_all; done), by repeat (first | (with_reducible first | exact HB.out | apply below_alloc | apply pw_below_drewN | apply below_drew1) | exact HB.out)⟩
                  · rw [if_neg c40] at H
                    have c40b0 : decide (0 ≤ t180) = false := decide_eq_false c40
                    clear c40
                    obtain rfl := Option.some.inj H
                    have p15 : 0 ≤ (0 : Int) := (by omega)
                    have q15 : 0 < t179.size := (by have : (0 : Int) < (t179.size : Int) := of_decide_eq_true (by first | (with_reducible assumption) | assumption); omega)
                    have hx15 : ∀ h : 0 < t179.size, ((t179[0]'h).toNat : Int) = bt t179 0 := bt_at t179 0
                    clear p15
                    have qi15 : (0 < (t179.size : Int)) = True := eq_true (of_decide_eq_true (by first | (with_reducible assumption) | assumption))
                    replace q15 := eq_true q15
                    have p27 : 0 ≤ (0 : Int) := (by omega)
                    have q27 : 0 < t179.size := (by have : (0 : Int) < (t179.size : Int) := of_decide_eq_true (by first | (with_reducible assumption) | assumption); omega)
                    have hx27 : ∀ h : 0 < t179.size, ((t179[0]'h).toNat : Int) = bt t179 0 := bt_at t179 0
                    clear p27
                    have qi27 : (0 < (t179.size : Int)) = True := eq_true (of_decide_eq_true (by first | (with_reducible assumption) | assumption))
                    replace q27 := eq_true q27
                    go_wp2_with (first | (go_at_call 35; (with_reducible refine (impl_ReadNum.calls kj6 ((⟨#[48]⟩ : ByteArray) ++ t179) t188 t189 _ A39.out).mono ?_); rintro e w' ⟨rfl, ⟨nd, rfl⟩⟩; (try first | exact ⟨rfl, _, World.drewN_drewN _ _ _⟩ | exact ⟨rfl, _, Eq.trans (World.drewN_drewN _ _ _) (congrArg (World.drewN _) (Nat.add_assoc _ _ _))⟩)))
                    repeat (go_quiet (first | (go_at_call 35; (with_reducible refine (impl_ReadNum.calls kj6 ((⟨#[48]⟩ : ByteArray) ++ t179) t188 t189 _ A39.out).mono ?_); rintro e w' ⟨rfl, ⟨nd, rfl⟩⟩; (try first | exact ⟨rfl, _, World.drewN_drewN _ _ _⟩ | exact ⟨rfl, _, Eq.trans (World.drewN_drewN _ _ _) (congrArg (World.drewN _) (Nat.add_assoc _ _ _))⟩))); try go_wp2_with (first | (go_at_call 35; (with_reducible refine (impl_ReadNum.calls kj6 ((⟨#[48]⟩ : ByteArray) ++ t179) t188 t189 _ A39.out).mono ?_); rintro e w' ⟨rfl, ⟨nd, rfl⟩⟩; (try first | exact ⟨rfl, _, World.drewN_drewN _ _ _⟩ | exact ⟨rfl, _, Eq.trans (World.drewN_drewN _ _ _) (congrArg (World.drewN _) (Nat.add_assoc _ _ _))⟩))))
                    go_ret
                    exact ⟨by first | rfl | (simp [errW_none, errW_some] <;> rfl) | (simp [*, errW_none, errW_some] <;> rfl) | (exfalso; simp_all; done), by repeat (first | (with_reducible first | exact HB.out | apply below_alloc | apply pw_below_drewN | apply below_drew1) | exact HB.out)⟩
            · rw [if_neg c14] at H
              exact absurd H (by simp)
          · rw [if_neg c13] at H
            exact absurd H (by simp)

/-- THE ONE PURE STATEMENT of laws_FnNums: yours. -/
def laws_FnNums.Pure : Prop := ∀ (l0 : List Int), l0.length ≤ maxLen → l0.length * 1 ≤ 140737488351232 → (∀ x ∈ l0, (Lit.int .u8 x).wf = true) → ∃ k, laws_FnNums.f k l0 = some true
theorem laws_FnNums.walk (P : laws_FnNums.Pure) (a0 : Option Addr) (len0 cap0 : Nat) (z0 : List Int) (w : World) (w0 : (a0 = none ∧ len0 = 0 ∧ cap0 = 0 ∧ z0 = []) ∨ ∃ x, a0 = some x ∧ len0 ≤ cap0 ∧ cap0 ≤ maxLen ∧ z0.length = cap0 ∧ (∀ i, i < z0.length → w.cell? (x.add i) = some (.int .u8 (z0.getD i 0))) ∧ ∀ n ∈ z0, (Lit.int .u8 n).wf = true) (y0 : len0 * 1 ≤ 140737488351232) :
    Calls Try.prog 7 #[.slice a0 len0 cap0] w fun e w' => e = .returned (.bool true) ∧ Below w.heap.size w w' := by
  obtain ⟨l0, rfl, hr0, hm0, hw0, hc0⟩ := ReadsInt.ofRowC w0
  obtain ⟨k, h⟩ := P l0 hm0 y0 hw0
  refine (laws_FnNums.calls k _ _ l0 true w (Kd.C_of_reads (d := (0 : Int)) (h1 := fun _ => rfl) hr0) hc0 h).mono ?_
  rintro e w' ⟨rfl, hd⟩
  exact ⟨rfl, hd⟩

end Go.Proofs.Ytahibkfcohajcaa.QFnNums
