/- The machine's side of a law, written by a program of this session for this claim. -/
import Derived.Test.YtahibkfcohajcaaQFnDaax0
import Derived.Test.YtahibkfcohajcaaQFnDaax2
namespace Go.Proofs.Ytahibkfcohajcaa.QFnDaa
open Go.RowKit Go.Proofs.YtahibkfcohajcaaW.PrintWords Go.Proofs.YtahibkfcohajcaaW.PrintLast Go.Proofs.YtahibkfcohajcaaW.PrintMore
attribute [local go_sem] max2_int min2_int max_two min_two max_three min_three max_four min_four   -- for this text's walks alone
set_option linter.unusedVariables false
set_option linter.unusedSimpArgs false

/-! ### spec_Daa: function 26 -/
mutual
def spec_Daa.j0 : Nat → Int → Int → Bool → Option (Int × Int)
  | 0, _, _, _ => none
  | k + 1, x0, x1, x18 => if x18 = true then (some (0, 0)) else ((spec_l4Carry.f x1).bind fun t190 => (if (Int.tmod (wrap64 (Int.tdiv x1 32)) 2) = 1 then (spec_Daa.j1 k x0 ((Int.tmod (wrap64 (Int.tdiv x1 64)) 2) == 1) ((Int.tmod (wrap64 (Int.tdiv x1 32)) 2) == 1) (t190 == 1) 0 ((Int.tmod (wrap64 (Int.tdiv x1 32)) 2) == 1) true) else (if ((Int.tmod (wrap64 (Int.tdiv x1 64)) 2) = 1) then (spec_Daa.j1 k x0 ((Int.tmod (wrap64 (Int.tdiv x1 64)) 2) == 1) ((Int.tmod (wrap64 (Int.tdiv x1 32)) 2) == 1) (t190 == 1) 0 ((Int.tmod (wrap64 (Int.tdiv x1 32)) 2) == 1) false) else (spec_Daa.j1 k x0 ((Int.tmod (wrap64 (Int.tdiv x1 64)) 2) == 1) ((Int.tmod (wrap64 (Int.tdiv x1 32)) 2) == 1) (t190 == 1) 0 ((Int.tmod (wrap64 (Int.tdiv x1 32)) 2) == 1) (decide ((Int.tmod x0 16) > 9))))))
def spec_Daa.j1 : Nat → Int → Bool → Bool → Bool → Int → Bool → Bool → Option (Int × Int)
  | 0, _, _, _, _, _, _, _ => none
  | k + 1, x0, x6, x7, x8, x9, x26, x39 => if x39 = true then (spec_Daa.j2 k x0 x6 x8 6 x39) else (spec_Daa.j2 k x0 x6 x8 x9 x39)
def spec_Daa.j2 : Nat → Int → Bool → Bool → Int → Bool → Option (Int × Int)
  | 0, _, _, _, _, _ => none
  | k + 1, x0, x6, x8, x9, x39 => if x8 = true then (spec_Daa.j3 k x0 x6 x8 x9 true) else (if x6 = true then (spec_Daa.j3 k x0 x6 x8 x9 false) else (spec_Daa.j3 k x0 x6 x8 x9 (decide (x0 > 153))))
def spec_Daa.j3 : Nat → Int → Bool → Bool → Int → Bool → Option (Int × Int)
  | 0, _, _, _, _, _ => none
  | k + 1, x0, x6, x8, x9, x48 => if x48 = true then (if x6 = true then ((spec_l4Flags.f ((Int.tmod (wrap64 ((wrap64 (x0 + (wrap64 (-(wrap64 (x9 + 96)))))) + 256)) 256) == 0) x6 false true).bind fun t191 => (some (Int.tmod (wrap64 ((wrap64 (x0 + (wrap64 (-(wrap64 (x9 + 96)))))) + 256)) 256, t191))) else ((spec_l4Flags.f ((Int.tmod (wrap64 ((wrap64 (x0 + (wrap64 (x9 + 96)))) + 256)) 256) == 0) x6 false true).bind fun t192 => (some (Int.tmod (wrap64 ((wrap64 (x0 + (wrap64 (x9 + 96)))) + 256)) 256, t192)))) else (if x6 = true then ((spec_l4Flags.f ((Int.tmod (wrap64 ((wrap64 (x0 + (wrap64 (-x9)))) + 256)) 256) == 0) x6 false x8).bind fun t193 => (some (Int.tmod (wrap64 ((wrap64 (x0 + (wrap64 (-x9)))) + 256)) 256, t193))) else ((spec_l4Flags.f ((Int.tmod (wrap64 ((wrap64 (x0 + x9)) + 256)) 256) == 0) x6 false x8).bind fun t194 => (some (Int.tmod (wrap64 ((wrap64 (x0 + x9)) + 256)) 256, t194))))
end
def spec_Daa.f (k : Nat) (a0 : Int) (a1 : Int) : Option (Int × Int) := (spec_l4Byte.f a0).bind fun t188 => (if t188 = true then ((spec_l4Byte.f a1).bind fun t189 => (spec_Daa.j0 k a0 a1 (!t189))) else (spec_Daa.j0 k a0 a1 true))
theorem spec_Daa.mono_l : ∀ k, (∀ y0 y1 y2, LeO (spec_Daa.j0 k y0 y1 y2) (spec_Daa.j0 (k + 1) y0 y1 y2)) ∧ (∀ y0 y1 y2 y3 y4 y5 y6, LeO (spec_Daa.j1 k y0 y1 y2 y3 y4 y5 y6) (spec_Daa.j1 (k + 1) y0 y1 y2 y3 y4 y5 y6)) ∧ (∀ y0 y1 y2 y3 y4, LeO (spec_Daa.j2 k y0 y1 y2 y3 y4) (spec_Daa.j2 (k + 1) y0 y1 y2 y3 y4)) ∧ (∀ y0 y1 y2 y3 y4, LeO (spec_Daa.j3 k y0 y1 y2 y3 y4) (spec_Daa.j3 (k + 1) y0 y1 y2 y3 y4))
  | 0 => ⟨fun _ _ _ r h => by simp [spec_Daa.j0] at h, fun _ _ _ _ _ _ _ r h => by simp [spec_Daa.j1] at h, fun _ _ _ _ _ r h => by simp [spec_Daa.j2] at h, fun _ _ _ _ _ r h => by simp [spec_Daa.j3] at h⟩
  | k + 1 => by
    obtain ⟨ih0, ih1, ih2, ih3⟩ := spec_Daa.mono_l k
    refine ⟨?_, ?_, ?_, ?_⟩
    · intro y0 y1 y2
      unfold spec_Daa.j0
      repeat' first
      | (with_reducible exact ih0 _ _ _)
      | (with_reducible exact ih1 _ _ _ _ _ _ _)
      | (with_reducible exact ih2 _ _ _ _ _)
      | (with_reducible exact ih3 _ _ _ _ _)
      | (with_reducible exact LeO.refl _)
      | (with_reducible exact LeO.none _)
      | (with_reducible refine LeO.ite ?_ ?_)
      | (with_reducible refine LeO.bind ?_ (fun _ => ?_))
      | exact ih0 _ _ _
      | exact ih1 _ _ _ _ _ _ _
      | exact ih2 _ _ _ _ _
      | exact ih3 _ _ _ _ _
      | exact LeO.none _
      | refine LeO.ite ?_ ?_
      | refine LeO.bind ?_ (fun _ => ?_)
    · intro y0 y1 y2 y3 y4 y5 y6
      unfold spec_Daa.j1
      repeat' first
      | (with_reducible exact ih0 _ _ _)
      | (with_reducible exact ih1 _ _ _ _ _ _ _)
      | (with_reducible exact ih2 _ _ _ _ _)
      | (with_reducible exact ih3 _ _ _ _ _)
      | (with_reducible exact LeO.refl _)
      | (with_reducible exact LeO.none _)
      | (with_reducible refine LeO.ite ?_ ?_)
      | (with_reducible refine LeO.bind ?_ (fun _ => ?_))
      | exact ih0 _ _ _
      | exact ih1 _ _ _ _ _ _ _
      | exact ih2 _ _ _ _ _
      | exact ih3 _ _ _ _ _
      | exact LeO.none _
      | refine LeO.ite ?_ ?_
      | refine LeO.bind ?_ (fun _ => ?_)
    · intro y0 y1 y2 y3 y4
      unfold spec_Daa.j2
      repeat' first
      | (with_reducible exact ih0 _ _ _)
      | (with_reducible exact ih1 _ _ _ _ _ _ _)
      | (with_reducible exact ih2 _ _ _ _ _)
      | (with_reducible exact ih3 _ _ _ _ _)
      | (with_reducible exact LeO.refl _)
      | (with_reducible exact LeO.none _)
      | (with_reducible refine LeO.ite ?_ ?_)
      | (with_reducible refine LeO.bind ?_ (fun _ => ?_))
      | exact ih0 _ _ _
      | exact ih1 _ _ _ _ _ _ _
      | exact ih2 _ _ _ _ _
      | exact ih3 _ _ _ _ _
      | exact LeO.none _
      | refine LeO.ite ?_ ?_
      | refine LeO.bind ?_ (fun _ => ?_)
    · intro y0 y1 y2 y3 y4
      unfold spec_Daa.j3
      repeat' first
      | (with_reducible exact ih0 _ _ _)
      | (with_reducible exact ih1 _ _ _ _ _ _ _)
      | (with_reducible exact ih2 _ _ _ _ _)
      | (with_reducible exact ih3 _ _ _ _ _)
      | (with_reducible exact LeO.refl _)
      | (with_reducible exact LeO.none _)
      | (with_reducible refine LeO.ite ?_ ?_)
      | (with_reducible refine LeO.bind ?_ (fun _ => ?_))
      | exact ih0 _ _ _
      | exact ih1 _ _ _ _ _ _ _
      | exact ih2 _ _ _ _ _
      | exact ih3 _ _ _ _ _
      | exact LeO.none _
      | refine LeO.ite ?_ ?_
      | refine LeO.bind ?_ (fun _ => ?_)
theorem spec_Daa.mono : ∀ a0 a1 k, LeO (spec_Daa.f k a0 a1) (spec_Daa.f (k + 1) a0 a1) := by
  intro a0 a1 k
  obtain ⟨ih0, ih1, ih2, ih3⟩ := spec_Daa.mono_l k
  unfold spec_Daa.f
  repeat' first
      | (with_reducible exact ih0 _ _ _)
      | (with_reducible exact ih1 _ _ _ _ _ _ _)
      | (with_reducible exact ih2 _ _ _ _ _)
      | (with_reducible exact ih3 _ _ _ _ _)
      | (with_reducible exact LeO.refl _)
      | (with_reducible exact LeO.none _)
      | (with_reducible refine LeO.ite ?_ ?_)
      | (with_reducible refine LeO.bind ?_ (fun _ => ?_))
      | exact ih0 _ _ _
      | exact ih1 _ _ _ _ _ _ _
      | exact ih2 _ _ _ _ _
      | exact ih3 _ _ _ _ _
      | exact LeO.none _
      | refine LeO.ite ?_ ?_
      | refine LeO.bind ?_ (fun _ => ?_)
set_option maxHeartbeats 8000000 in
set_option maxRecDepth 100000 in
theorem spec_Daa.calls (k : Nat) (a0 : Int) (a1 : Int) (r1 : Int) (r2 : Int) (w : World) (h : spec_Daa.f k a0 a1 = some (r1, r2)) :
    Calls Try.prog 26 #[.int .i64 a0, .int .i64 a1] w fun e w' => e = .returned (.tuple #[.int .i64 r1, .int .i64 r2]) ∧ Drawn0 w w' := by
  have H : ((spec_l4Byte.f a0).bind fun t188 => (if t188 = true then ((spec_l4Byte.f a1).bind fun t189 => (spec_Daa.j0 k a0 a1 (!t189))) else (spec_Daa.j0 k a0 a1 true))) = some (r1, r2) := h
  clear h
  have HC3 := Aside0.mk H
  clear H
  go_enter Try.func26, Try.ntmps26
  go_upto_region 1 with (fail)
  go_cut [18] (fun v18 wc => ∃ (kq : Nat) (x18_2 : Bool), v18 = .bool x18_2 ∧ Aside0 (spec_Daa.j0 kq a0 a1 x18_2 = some (r1, r2)) ∧ Aside0 (kq ≤ k) ∧ Drawn0 w wc)
  case first =>
    have H := HC3.out
    clear HC3
    replace H := Option.bind_eq_some_iff.mp H
    obtain ⟨t188, A40, H⟩ := H
    replace H : (if t188 = true then ((spec_l4Byte.f a1).bind fun t189 => (spec_Daa.j0 k a0 a1 (!t189))) else (spec_Daa.j0 k a0 a1 true)) = some (r1, r2) := H
    have A4 := Aside0.mk A40
    clear A40
    by_cases c5 : t188 = true
    · subst c5
      have H1 : ((spec_l4Byte.f a1).bind fun t189 => (spec_Daa.j0 k a0 a1 (!t189))) = some (r1, r2) := by rw [if_pos rfl] at H; exact H
      clear H
      have H := H1
      clear H1
      replace H := Option.bind_eq_some_iff.mp H
      obtain ⟨t189, A60, H⟩ := H
      replace H : (spec_Daa.j0 k a0 a1 (!t189)) = some (r1, r2) := H
      have A6 := Aside0.mk A60
      clear A60
      have H' := Aside0.mk H
      clear H
      go_wp2_with (first | ((with_reducible refine gate_callee (f := 67) rfl ?_); refine goesL_ (some 12) rfl rfl Try.func67 (by kernel_rfl) rfl #[.int .i64 a0] rfl (by (try simp only [List.map_toArray, List.map_cons, List.map_nil]); first | done | rfl | (simp only [List.length_drop, List.length_take]; rfl)) ?_; (with_reducible refine (spec_l4Byte.calls a0 true _ A4.out).mono ?_); rintro e w' ⟨rfl, ⟨nd, rfl⟩⟩; refine ⟨_, rfl, ?_⟩) | (go_at_call 67; (with_reducible refine (spec_l4Byte.calls a1 t189 _ A6.out).mono ?_); rintro e w' ⟨rfl, ⟨nd, rfl⟩⟩))
      go_meet
      case rel => exact ⟨_, (!t189), (by first | rfl | (simp; done) | (simp [*]; done) | (simp; decide +kernel) | (simp [wrap64]; done)), H', ⟨by first | omega | exact Nat.le_refl _⟩, by repeat (first | exact Drawn0.refl _ | apply Drawn0.step)⟩
    · replace c5 := Bool.eq_false_iff.mpr c5
      subst c5
      have H1 : (spec_Daa.j0 k a0 a1 true) = some (r1, r2) := by rw [if_neg (show ¬ (false = true) by decide)] at H; exact H
      clear H
      have H := H1
      clear H1
      have H' := Aside0.mk H
      clear H
      go_wp2_with (first | ((with_reducible refine gate_callee (f := 67) rfl ?_); refine goesL_ (some 12) rfl rfl Try.func67 (by kernel_rfl) rfl #[.int .i64 a0] rfl (by (try simp only [List.map_toArray, List.map_cons, List.map_nil]); first | done | rfl | (simp only [List.length_drop, List.length_take]; rfl)) ?_; (with_reducible refine (spec_l4Byte.calls a0 false _ A4.out).mono ?_); rintro e w' ⟨rfl, ⟨nd, rfl⟩⟩; refine ⟨_, rfl, ?_⟩))
      go_meet
      case rel => exact ⟨_, (true), (by first | rfl | (simp; done) | (simp [*]; done) | (simp; decide +kernel) | (simp [wrap64]; done)), H', ⟨by first | omega | exact Nat.le_refl _⟩, by repeat (first | exact Drawn0.refl _ | apply Drawn0.step)⟩
  case rest =>
    clear HC3
    try clear c2
    try clear p2
    try clear c5
    try clear c6
    try clear p6
    obtain ⟨kq, x18_2, rfl, HA, HJ2, ⟨mc2, rfl⟩⟩ := hcut
    cases kq with
    | zero => exact absurd HA.out (by simp [spec_Daa.j0])
    | succ kj2 =>
      have H := HA.out
      clear HA
      simp only [spec_Daa.j0] at H
      by_cases c7 : x18_2 = true
      · subst c7
        have H1 : (some (0, 0)) = some (r1, r2) := by rw [if_pos rfl] at H; exact H
        clear H
        have H := H1
        clear H1
        simp only [Option.some.injEq, Prod.mk.injEq] at H
        obtain ⟨rfl, rfl⟩ := H
        go_wp2
        go_ret2
        exact ⟨by first | rfl | (simp; done) | (simp [*]; done) | (simp; decide +kernel) | (simp [wrap64]; done), by repeat (first | exact Drawn0.refl _ | apply Drawn0.step)⟩
      · replace c7 := Bool.eq_false_iff.mpr c7
        subst c7
        have H1 : ((spec_l4Carry.f a1).bind fun t190 => (if (Int.tmod (wrap64 (Int.tdiv a1 32)) 2) = 1 then (spec_Daa.j1 kj2 a0 ((Int.tmod (wrap64 (Int.tdiv a1 64)) 2) == 1) ((Int.tmod (wrap64 (Int.tdiv a1 32)) 2) == 1) (t190 == 1) 0 ((Int.tmod (wrap64 (Int.tdiv a1 32)) 2) == 1) true) else (if ((Int.tmod (wrap64 (Int.tdiv a1 64)) 2) = 1) then (spec_Daa.j1 kj2 a0 ((Int.tmod (wrap64 (Int.tdiv a1 64)) 2) == 1) ((Int.tmod (wrap64 (Int.tdiv a1 32)) 2) == 1) (t190 == 1) 0 ((Int.tmod (wrap64 (Int.tdiv a1 32)) 2) == 1) false) else (spec_Daa.j1 kj2 a0 ((Int.tmod (wrap64 (Int.tdiv a1 64)) 2) == 1) ((Int.tmod (wrap64 (Int.tdiv a1 32)) 2) == 1) (t190 == 1) 0 ((Int.tmod (wrap64 (Int.tdiv a1 32)) 2) == 1) (decide ((Int.tmod a0 16) > 9)))))) = some (r1, r2) := by rw [if_neg (show ¬ (false = true) by decide)] at H; exact H
        clear H
        have H := H1
        clear H1
        replace H := Option.bind_eq_some_iff.mp H
        obtain ⟨t190, A80, H⟩ := H
        replace H : (if (Int.tmod (wrap64 (Int.tdiv a1 32)) 2) = 1 then (spec_Daa.j1 kj2 a0 ((Int.tmod (wrap64 (Int.tdiv a1 64)) 2) == 1) ((Int.tmod (wrap64 (Int.tdiv a1 32)) 2) == 1) (t190 == 1) 0 ((Int.tmod (wrap64 (Int.tdiv a1 32)) 2) == 1) true) else (if ((Int.tmod (wrap64 (Int.tdiv a1 64)) 2) = 1) then (spec_Daa.j1 kj2 a0 ((Int.tmod (wrap64 (Int.tdiv a1 64)) 2) == 1) ((Int.tmod (wrap64 (Int.tdiv a1 32)) 2) == 1) (t190 == 1) 0 ((Int.tmod (wrap64 (Int.tdiv a1 32)) 2) == 1) false) else (spec_Daa.j1 kj2 a0 ((Int.tmod (wrap64 (Int.tdiv a1 64)) 2) == 1) ((Int.tmod (wrap64 (Int.tdiv a1 32)) 2) == 1) (t190 == 1) 0 ((Int.tmod (wrap64 (Int.tdiv a1 32)) 2) == 1) (decide ((Int.tmod a0 16) > 9))))) = some (r1, r2) := H
        have A8 := Aside0.mk A80
        clear A80
        have HC9 := Aside0.mk H
        clear H
        go_upto_region 7 with (first | ((with_reducible refine gate_callee (f := 68) rfl ?_); refine goesL_ (some 28) rfl rfl Try.func68 (by kernel_rfl) rfl #[.int .i64 a1] rfl (by (try simp only [List.map_toArray, List.map_cons, List.map_nil]); first | done | rfl | (simp only [List.length_drop, List.length_take]; rfl)) ?_; (with_reducible refine (spec_l4Carry.calls a1 t190 _ A8.out).mono ?_); rintro e w' ⟨rfl, ⟨nd, rfl⟩⟩; refine ⟨_, rfl, ?_⟩))
        (try simp only [Act.put, List.setIfInBounds_toArray, List.set_cons_zero, List.set_cons_succ])
        go_cut [7, 26, 39] (fun v7 v26 v39 wc => ∃ (kq : Nat) (x7_8 : Bool) (x26_8 : Bool) (x39_8 : Bool), v7 = .bool x7_8 ∧ v26 = .bool x26_8 ∧ v39 = .bool x39_8 ∧ Aside0 (spec_Daa.j1 kq a0 ((Int.tmod (wrap64 (Int.tdiv a1 64)) 2) == 1) x7_8 (t190 == 1) 0 x26_8 x39_8 = some (r1, r2)) ∧ Aside0 (kq ≤ kj2) ∧ Drawn0 w wc)
        case first =>
          have H := HC9.out
          clear HC9
          by_cases c10 : (Int.tmod (wrap64 (Int.tdiv a1 32)) 2) = 1
          · rw [if_pos c10] at H
            have c10b0 : ((Int.tmod (wrap64 (Int.tdiv a1 32)) 2) == 1) = true := beq_iff_eq.mpr c10
            have c10b1 : ((Int.tmod (wrap64 (Int.tdiv a1 32)) 2) != 1) = false := bne_eq_false_iff_eq.mpr c10
            clear c10
            (first | rw [c10b0] | (simp only [i64_w, i32_w]; rw [c10b0]) | skip)
            have H' := Aside0.mk H
            clear H
            go_wp2
            go_meet
            case rel => exact ⟨_, (((Int.tmod (wrap64 (Int.tdiv a1 32)) 2) == 1)), (((Int.tmod (wrap64 (Int.tdiv a1 32)) 2) == 1)), (true), (by first | rfl | (simp; done) | (simp [*]; done) | (simp; decide +kernel) | (simp [wrap64]; done)), (by first | rfl | (simp; done) | (simp [*]; done) | (simp; decide +kernel) | (simp [wrap64]; done)), (by first | rfl | (simp; done) | (simp [*]; done) | (simp; decide +kernel) | (simp [wrap64]; done)), H', ⟨by have := HJ2.out; first | omega | exact Nat.le_refl _⟩, by repeat (first | exact Drawn0.refl _ | apply Drawn0.step)⟩
          · rw [if_neg c10] at H
            have c10b0 : ((Int.tmod (wrap64 (Int.tdiv a1 32)) 2) == 1) = false := beq_eq_false_iff_ne.mpr c10
            have c10b1 : ((Int.tmod (wrap64 (Int.tdiv a1 32)) 2) != 1) = true := bne_iff_ne.mpr c10
            (first | rw [c10b0] | (simp only [i64_w, i32_w]; rw [c10b0]) | skip)
            by_cases c11 : ((Int.tmod (wrap64 (Int.tdiv a1 64)) 2) = 1)
            · rw [if_pos c11] at H
              have c11b0 : ((Int.tmod (wrap64 (Int.tdiv a1 64)) 2) == 1) = true := beq_iff_eq.mpr c11
              have c11b1 : ((Int.tmod (wrap64 (Int.tdiv a1 64)) 2) != 1) = false := bne_eq_false_iff_eq.mpr c11
              clear c11
              have H' := Aside0.mk H
              clear H
              go_wp2
              go_meet
              case rel => exact ⟨_, (((Int.tmod (wrap64 (Int.tdiv a1 32)) 2) == 1)), (((Int.tmod (wrap64 (Int.tdiv a1 32)) 2) == 1)), (false), (by first | rfl | (simp; done) | (simp [*]; done) | (simp; decide +kernel) | (simp [wrap64]; done)), (by first | rfl | (simp; done) | (simp [*]; done) | (simp; decide +kernel) | (simp [wrap64]; done)), (by first | rfl | (simp; done) | (simp [*]; done) | (simp; decide +kernel) | (simp [wrap64]; done)), H', ⟨by have := HJ2.out; first | omega | exact Nat.le_refl _⟩, by repeat (first | exact Drawn0.refl _ | apply Drawn0.step)⟩
            · rw [if_neg c11] at H
              have c11b0 : ((Int.tmod (wrap64 (Int.tdiv a1 64)) 2) == 1) = false := beq_eq_false_iff_ne.mpr c11
              have c11b1 : ((Int.tmod (wrap64 (Int.tdiv a1 64)) 2) != 1) = true := bne_iff_ne.mpr c11
              have H' := Aside0.mk H
              clear H
              go_wp2
              go_meet
              case rel => exact ⟨_, (((Int.tmod (wrap64 (Int.tdiv a1 32)) 2) == 1)), (((Int.tmod (wrap64 (Int.tdiv a1 32)) 2) == 1)), (decide ((Int.tmod a0 16) > 9)), (by first | rfl | (simp; done) | (simp [*]; done) | (simp; decide +kernel) | (simp [wrap64]; done)), (by first | rfl | (simp; done) | (simp [*]; done) | (simp; decide +kernel) | (simp [wrap64]; done)), (by first | rfl | (simp; done) | (simp [*]; done) | (simp; decide +kernel) | (simp [wrap64]; done)), H', ⟨by have := HJ2.out; first | omega | exact Nat.le_refl _⟩, by repeat (first | exact Drawn0.refl _ | apply Drawn0.step)⟩
        case rest =>
          clear HC9
          try clear c1
          try clear c2
          try clear p2
          try clear c5
          try clear c6
          try clear p6
          try clear c7
          try clear c10
          try clear c10b0
          try clear c10b1
          try clear c11
          try clear c11b0
          try clear c11b1
          try clear p2
          try clear p6
          obtain ⟨kq, x7_8, x26_8, x39_8, rfl, rfl, rfl, HA, HJ8, ⟨mc8, rfl⟩⟩ := hcut
          cases kq with
          | zero => exact absurd HA.out (by simp [spec_Daa.j1])
          | succ kj8 =>
            have H := HA.out
            clear HA
            simp only [spec_Daa.j1] at H
            have HC12 := Aside0.mk H
            clear H
            go_upto_if 39 with (fail)
            go_cut [9, 39] (fun v9 v39 wc => ∃ (kq : Nat) (x9_11 : Int) (x39_11 : Bool), v9 = .int .i64 x9_11 ∧ v39 = .bool x39_11 ∧ Aside0 (spec_Daa.j2 kq a0 ((Int.tmod (wrap64 (Int.tdiv a1 64)) 2) == 1) (t190 == 1) x9_11 x39_11 = some (r1, r2)) ∧ Aside0 (kq ≤ kj8) ∧ Drawn0 w wc)
            case first =>
              have H := HC12.out
              clear HC12
              by_cases c13 : x39_8 = true
              · subst c13
                have H1 : (spec_Daa.j2 kj8 a0 ((Int.tmod (wrap64 (Int.tdiv a1 64)) 2) == 1) (t190 == 1) 6 true) = some (r1, r2) := by rw [if_pos rfl] at H; exact H
                clear H
                have H := H1
                clear H1
                have H' := Aside0.mk H
                clear H
                go_wp2
                go_meet
                case rel => exact ⟨_, (6), (true), (by first | rfl | (simp; done) | (simp [*]; done) | (simp; decide +kernel) | (simp [wrap64]; done)), (by first | rfl | (simp; done) | (simp [*]; done) | (simp; decide +kernel) | (simp [wrap64]; done)), H', ⟨by have := HJ2.out; have := HJ8.out; first | omega | exact Nat.le_refl _⟩, by repeat (first | exact Drawn0.refl _ | apply Drawn0.step)⟩
              · replace c13 := Bool.eq_false_iff.mpr c13
                subst c13
                have H1 : (spec_Daa.j2 kj8 a0 ((Int.tmod (wrap64 (Int.tdiv a1 64)) 2) == 1) (t190 == 1) 0 false) = some (r1, r2) := by rw [if_neg (show ¬ (false = true) by decide)] at H; exact H
                clear H
                have H := H1
                clear H1
                have H' := Aside0.mk H
                clear H
                go_wp2
                go_meet
                case rel => exact ⟨_, (0), (false), (by first | rfl | (simp; done) | (simp [*]; done) | (simp; decide +kernel) | (simp [wrap64]; done)), (by first | rfl | (simp; done) | (simp [*]; done) | (simp; decide +kernel) | (simp [wrap64]; done)), H', ⟨by have := HJ2.out; have := HJ8.out; first | omega | exact Nat.le_refl _⟩, by repeat (first | exact Drawn0.refl _ | apply Drawn0.step)⟩
            case rest =>
              clear HC12
              try clear c1
              try clear c2
              try clear p2
              try clear c5
              try clear c6
              try clear p6
              try clear c7
              try clear c8
              try clear c10
              try clear c10b0
              try clear c10b1
              try clear c11
              try clear c11b0
              try clear c11b1
              try clear c13
              try clear p2
              try clear p6
              obtain ⟨kq, x9_11, x39_11, rfl, rfl, HA, HJ11, ⟨mc11, rfl⟩⟩ := hcut
              cases kq with
              | zero => exact absurd HA.out (by simp [spec_Daa.j2])
              | succ kj11 =>
                have H := HA.out
                clear HA
                simp only [spec_Daa.j2] at H
                have HC14 := Aside0.mk H
                clear H
                go_upto_region 9 with (fail)
                go_cut [6, 8, 48] (fun v6 v8 v48 wc => ∃ (kq : Nat) (x6_13 : Bool) (x8_13 : Bool) (x48_13 : Bool), v6 = .bool x6_13 ∧ v8 = .bool x8_13 ∧ v48 = .bool x48_13 ∧ Aside0 (spec_Daa.j3 kq a0 x6_13 x8_13 x9_11 x48_13 = some (r1, r2)) ∧ Aside0 (kq ≤ kj11) ∧ Drawn0 w wc)
                case first =>
                  have H := HC14.out
                  clear HC14
                  by_cases c15 : (t190 == 1) = true
                  · rw [if_pos c15] at H
                    have c15b0 : (t190 == 1) = true := c15
                    (try (have c15b1 : decide (t190 = 1) = true := by simpa using c15))
                    (try (have c15b2 : (t190 == 1) = true := by simpa using c15))
                    clear c15
                    (first | rw [c15b0] | (simp only [i64_w, i32_w]; rw [c15b0]) | skip)
                    have H' := Aside0.mk H
                    clear H
                    go_wp2
                    go_meet
                    case rel => exact ⟨_, (((Int.tmod (wrap64 (Int.tdiv a1 64)) 2) == 1)), ((t190 == 1)), (true), (by first | rfl | (simp; done) | (simp [*]; done) | (simp; decide +kernel) | (simp [wrap64]; done)), (by first | rfl | (simp; done) | (simp [*]; done) | (simp; decide +kernel) | (simp [wrap64]; done)), (by first | rfl | (simp; done) | (simp [*]; done) | (simp; decide +kernel) | (simp [wrap64]; done)), H', ⟨by have := HJ2.out; have := HJ8.out; have := HJ11.out; first | omega | exact Nat.le_refl _⟩, by repeat (first | exact Drawn0.refl _ | apply Drawn0.step)⟩
                  · rw [if_neg c15] at H
                    have c15b0 : (t190 == 1) = false := by simpa using c15
                    (try (have c15b1 : decide (t190 = 1) = false := by simpa using c15))
                    (try (have c15b2 : (t190 == 1) = false := by simpa using c15))
                    (try (have c15b3 : ¬ (t190 = 1) := by simpa using c15))
                    clear c15
                    (first | rw [c15b0] | (simp only [i64_w, i32_w]; rw [c15b0]) | skip)
                    by_cases c16 : ((Int.tmod (wrap64 (Int.tdiv a1 64)) 2) == 1) = true
                    · rw [if_pos c16] at H
                      have c16b0 : ((Int.tmod (wrap64 (Int.tdiv a1 64)) 2) == 1) = true := c16
                      (try (have c16b1 : decide ((Int.tmod (wrap64 (Int.tdiv a1 64)) 2) = 1) = true := by simpa using c16))
                      (try (have c16b2 : ((Int.tmod (wrap64 (Int.tdiv a1 64)) 2) == 1) = true := by simpa using c16))
                      clear c16
                      have H' := Aside0.mk H
                      clear H
                      go_wp2
                      go_meet
                      case rel => exact ⟨_, (((Int.tmod (wrap64 (Int.tdiv a1 64)) 2) == 1)), ((t190 == 1)), (false), (by first | rfl | (simp; done) | (simp [*]; done) | (simp; decide +kernel) | (simp [wrap64]; done)), (by first | rfl | (simp; done) | (simp [*]; done) | (simp; decide +kernel) | (simp [wrap64]; done)), (by first | rfl | (simp; done) | (simp [*]; done) | (simp; decide +kernel) | (simp [wrap64]; done)), H', ⟨by have := HJ2.out; have := HJ8.out; have := HJ11.out; first | omega | exact Nat.le_refl _⟩, by repeat (first | exact Drawn0.refl _ | apply Drawn0.step)⟩
                    · rw [if_neg c16] at H
                      have c16b0 : ((Int.tmod (wrap64 (Int.tdiv a1 64)) 2) == 1) = false := by simpa using c16
                      (try (have c16b1 : decide ((Int.tmod (wrap64 (Int.tdiv a1 64)) 2) = 1) = false := by simpa using c16))
                      (try (have c16b2 : ((Int.tmod (wrap64 (Int.tdiv a1 64)) 2) == 1) = false := by simpa using c16))
                      (try (have c16b3 : ¬ ((Int.tmod (wrap64 (Int.tdiv a1 64)) 2) = 1) := by simpa using c16))
                      clear c16
                      have H' := Aside0.mk H
                      clear H
                      go_wp2
                      go_meet
                      case rel => exact ⟨_, (((Int.tmod (wrap64 (Int.tdiv a1 64)) 2) == 1)), ((t190 == 1)), (decide (a0 > 153)), (by first | rfl | (simp; done) | (simp [*]; done) | (simp; decide +kernel) | (simp [wrap64]; done)), (by first | rfl | (simp; done) | (simp [*]; done) | (simp; decide +kernel) | (simp [wrap64]; done)), (by first | rfl | (simp; done) | (simp [*]; done) | (simp; decide +kernel) | (simp [wrap64]; done)), H', ⟨by have := HJ2.out; have := HJ8.out; have := HJ11.out; first | omega | exact Nat.le_refl _⟩, by repeat (first | exact Drawn0.refl _ | apply Drawn0.step)⟩
                case rest =>
                  clear HC14
                  try clear c1
                  try clear c2
                  try clear p2
                  try clear c5
                  try clear c6
                  try clear p6
                  try clear c7
                  try clear c8
                  try clear c10
                  try clear c10b0
                  try clear c10b1
                  try clear c11
                  try clear c11b0
                  try clear c11b1
                  try clear c13
                  try clear c15
                  try clear c15b0
                  try clear c15b1
                  try clear c15b2
                  try clear c16
                  try clear c16b0
                  try clear c16b1
                  try clear c16b2
                  try clear p2
                  try clear p6
                  obtain ⟨kq, x6_13, x8_13, x48_13, rfl, rfl, rfl, HA, HJ13, ⟨mc13, rfl⟩⟩ := hcut
                  cases kq with
                  | zero => exact absurd HA.out (by simp [spec_Daa.j3])
                  | succ kj13 =>
                    have H := HA.out
                    clear HA
                    simp only [spec_Daa.j3] at H
                    by_cases c17 : x48_13 = true
                    · subst c17
                      have H1 : (if x6_13 = true then ((spec_l4Flags.f ((Int.tmod (wrap64 ((wrap64 (a0 + (wrap64 (-(wrap64 (x9_11 + 96)))))) + 256)) 256) == 0) x6_13 false true).bind fun t191 => (some (Int.tmod (wrap64 ((wrap64 (a0 + (wrap64 (-(wrap64 (x9_11 + 96)))))) + 256)) 256, t191))) else ((spec_l4Flags.f ((Int.tmod (wrap64 ((wrap64 (a0 + (wrap64 (x9_11 + 96)))) + 256)) 256) == 0) x6_13 false true).bind fun t192 => (some (Int.tmod (wrap64 ((wrap64 (a0 + (wrap64 (x9_11 + 96)))) + 256)) 256, t192)))) = some (r1, r2) := by rw [if_pos rfl] at H; exact H
                      clear H
                      have H := H1
                      clear H1
                      by_cases c18 : x6_13 = true
                      · subst c18
                        have H1 : ((spec_l4Flags.f ((Int.tmod (wrap64 ((wrap64 (a0 + (wrap64 (-(wrap64 (x9_11 + 96)))))) + 256)) 256) == 0) true false true).bind fun t191 => (some (Int.tmod (wrap64 ((wrap64 (a0 + (wrap64 (-(wrap64 (x9_11 + 96)))))) + 256)) 256, t191))) = some (r1, r2) := by rw [if_pos rfl] at H; exact H
                        clear H
                        have H := H1
                        clear H1
                        replace H := Option.bind_eq_some_iff.mp H
                        obtain ⟨t191, A190, H⟩ := H
                        replace H : (some (Int.tmod (wrap64 ((wrap64 (a0 + (wrap64 (-(wrap64 (x9_11 + 96)))))) + 256)) 256, t191)) = some (r1, r2) := H
                        have A19 := Aside0.mk A190
                        clear A190
                        simp only [Option.some.injEq, Prod.mk.injEq] at H
                        obtain ⟨rfl, rfl⟩ := H
                        go_wp2_with (first | ((with_reducible refine gate_callee (f := 69) rfl ?_); refine goesL_ (some 64) rfl rfl Try.func69 (by kernel_rfl) rfl #[.bool ((Int.tmod (wrap64 ((wrap64 (a0 + (wrap64 (-(wrap64 (x9_11 + 96)))))) + 256)) 256) == 0), .bool true, .bool false, .bool true] rfl (by (try simp only [List.map_toArray, List.map_cons, List.map_nil]); first | done | rfl | (simp only [List.length_drop, List.length_take]; rfl)) ?_; (with_reducible refine (spec_l4Flags.calls ((Int.tmod (wrap64 ((wrap64 (a0 + (wrap64 (-(wrap64 (x9_11 + 96)))))) + 256)) 256) == 0) true false true t191 _ A19.out).mono ?_); rintro e w' ⟨rfl, ⟨nd, rfl⟩⟩; refine ⟨_, rfl, ?_⟩))
                        go_ret2
                        exact ⟨by first | rfl | (simp; done) | (simp [*]; done) | (simp; decide +kernel) | (simp [wrap64]; done), by repeat (first | exact Drawn0.refl _ | apply Drawn0.step)⟩
                      · replace c18 := Bool.eq_false_iff.mpr c18
                        subst c18
                        have H1 : ((spec_l4Flags.f ((Int.tmod (wrap64 ((wrap64 (a0 + (wrap64 (x9_11 + 96)))) + 256)) 256) == 0) false false true).bind fun t192 => (some (Int.tmod (wrap64 ((wrap64 (a0 + (wrap64 (x9_11 + 96)))) + 256)) 256, t192))) = some (r1, r2) := by rw [if_neg (show ¬ (false = true) by decide)] at H; exact H
                        clear H
                        have H := H1
                        clear H1
                        replace H := Option.bind_eq_some_iff.mp H
                        obtain ⟨t192, A200, H⟩ := H
                        replace H : (some (Int.tmod (wrap64 ((wrap64 (a0 + (wrap64 (x9_11 + 96)))) + 256)) 256, t192)) = some (r1, r2) := H
                        have A20 := Aside0.mk A200
                        clear A200
                        simp only [Option.some.injEq, Prod.mk.injEq] at H
                        obtain ⟨rfl, rfl⟩ := H
                        go_wp2_with (first | ((with_reducible refine gate_callee (f := 69) rfl ?_); refine goesL_ (some 64) rfl rfl Try.func69 (by kernel_rfl) rfl #[.bool ((Int.tmod (wrap64 ((wrap64 (a0 + (wrap64 (x9_11 + 96)))) + 256)) 256) == 0), .bool false, .bool false, .bool true] rfl (by (try simp only [List.map_toArray, List.map_cons, List.map_nil]); first | done | rfl | (simp only [List.length_drop, List.length_take]; rfl)) ?_; (with_reducible refine (spec_l4Flags.calls ((Int.tmod (wrap64 ((wrap64 (a0 + (wrap64 (x9_11 + 96)))) + 256)) 256) == 0) false false true t192 _ A20.out).mono ?_); rintro e w' ⟨rfl, ⟨nd, rfl⟩⟩; refine ⟨_, rfl, ?_⟩))
                        go_ret2
                        exact ⟨by first | rfl | (simp; done) | (simp [*]; done) | (simp; decide +kernel) | (simp [wrap64]; done), by repeat (first | exact Drawn0.refl _ | apply Drawn0.step)⟩
                    · replace c17 := Bool.eq_false_iff.mpr c17
                      subst c17
                      have H1 : (if x6_13 = true then ((spec_l4Flags.f ((Int.tmod (wrap64 ((wrap64 (a0 + (wrap64 (-x9_11)))) + 256)) 256) == 0) x6_13 false x8_13).bind fun t193 => (some (Int.tmod (wrap64 ((wrap64 (a0 + (wrap64 (-x9_11)))) + 256)) 256, t193))) else ((spec_l4Flags.f ((Int.tmod (wrap64 ((wrap64 (a0 + x9_11)) + 256)) 256) == 0) x6_13 false x8_13).bind fun t194 => (some (Int.tmod (wrap64 ((wrap64 (a0 + x9_11)) + 256)) 256, t194)))) = some (r1, r2) := by rw [if_neg (show ¬ (false = true) by decide)] at H; exact H
                      clear H
                      have H := H1
                      clear H1
                      by_cases c21 : x6_13 = true
                      · subst c21
                        have H1 : ((spec_l4Flags.f ((Int.tmod (wrap64 ((wrap64 (a0 + (wrap64 (-x9_11)))) + 256)) 256) == 0) true false x8_13).bind fun t193 => (some (Int.tmod (wrap64 ((wrap64 (a0 + (wrap64 (-x9_11)))) + 256)) 256, t193))) = some (r1, r2) := by rw [if_pos rfl] at H; exact H
                        clear H
                        have H := H1
                        clear H1
                        replace H := Option.bind_eq_some_iff.mp H
                        obtain ⟨t193, A220, H⟩ := H
                        replace H : (some (Int.tmod (wrap64 ((wrap64 (a0 + (wrap64 (-x9_11)))) + 256)) 256, t193)) = some (r1, r2) := H
                        have A22 := Aside0.mk A220
                        clear A220
                        simp only [Option.some.injEq, Prod.mk.injEq] at H
                        obtain ⟨rfl, rfl⟩ := H
                        go_wp2_with (first | ((with_reducible refine gate_callee (f := 69) rfl ?_); refine goesL_ (some 64) rfl rfl Try.func69 (by kernel_rfl) rfl #[.bool ((Int.tmod (wrap64 ((wrap64 (a0 + (wrap64 (-x9_11)))) + 256)) 256) == 0), .bool true, .bool false, .bool x8_13] rfl (by (try simp only [List.map_toArray, List.map_cons, List.map_nil]); first | done | rfl | (simp only [List.length_drop, List.length_take]; rfl)) ?_; (with_reducible refine (spec_l4Flags.calls ((Int.tmod (wrap64 ((wrap64 (a0 + (wrap64 (-x9_11)))) + 256)) 256) == 0) true false x8_13 t193 _ A22.out).mono ?_); rintro e w' ⟨rfl, ⟨nd, rfl⟩⟩; refine ⟨_, rfl, ?_⟩))
                        go_ret2
                        exact ⟨by first | rfl | (simp; done) | (simp [*]; done) | (simp; decide +kernel) | (simp [wrap64]; done), by repeat (first | exact Drawn0.refl _ | apply Drawn0.step)⟩
                      · replace c21 := Bool.eq_false_iff.mpr c21
                        subst c21
                        have H1 : ((spec_l4Flags.f ((Int.tmod (wrap64 ((wrap64 (a0 + x9_11)) + 256)) 256) == 0) false false x8_13).bind fun t194 => (some (Int.tmod (wrap64 ((wrap64 (a0 + x9_11)) + 256)) 256, t194))) = some (r1, r2) := by rw [if_neg (show ¬ (false = true) by decide)] at H; exact H
                        clear H
                        have H := H1
                        clear H1
                        replace H := Option.bind_eq_some_iff.mp H
                        obtain ⟨t194, A230, H⟩ := H
                        replace H : (some (Int.tmod (wrap64 ((wrap64 (a0 + x9_11)) + 256)) 256, t194)) = some (r1, r2) := H
                        have A23 := Aside0.mk A230
                        clear A230
                        simp only [Option.some.injEq, Prod.mk.injEq] at H
                        obtain ⟨rfl, rfl⟩ := H
                        go_wp2_with (first | ((with_reducible refine gate_callee (f := 69) rfl ?_); refine goesL_ (some 64) rfl rfl Try.func69 (by kernel_rfl) rfl #[.bool ((Int.tmod (wrap64 ((wrap64 (a0 + x9_11)) + 256)) 256) == 0), .bool false, .bool false, .bool x8_13] rfl (by (try simp only [List.map_toArray, List.map_cons, List.map_nil]); first | done | rfl | (simp only [List.length_drop, List.length_take]; rfl)) ?_; (with_reducible refine (spec_l4Flags.calls ((Int.tmod (wrap64 ((wrap64 (a0 + x9_11)) + 256)) 256) == 0) false false x8_13 t194 _ A23.out).mono ?_); rintro e w' ⟨rfl, ⟨nd, rfl⟩⟩; refine ⟨_, rfl, ?_⟩))
                        go_ret2
                        exact ⟨by first | rfl | (simp; done) | (simp [*]; done) | (simp; decide +kernel) | (simp [wrap64]; done), by repeat (first | exact Drawn0.refl _ | apply Drawn0.step)⟩

end Go.Proofs.Ytahibkfcohajcaa.QFnDaa
