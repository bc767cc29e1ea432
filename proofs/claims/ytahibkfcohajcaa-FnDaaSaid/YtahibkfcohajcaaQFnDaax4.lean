/- The machine's side of a law, written by a program of this session for this claim. -/
import Derived.Test.YtahibkfcohajcaaQFnDaax0
import Derived.Test.YtahibkfcohajcaaQFnDaax1
import Derived.Test.YtahibkfcohajcaaQFnDaax2
import Derived.Test.YtahibkfcohajcaaQFnDaax3
namespace Go.Proofs.Ytahibkfcohajcaa.QFnDaa
open Go.RowKit Go.Proofs.YtahibkfcohajcaaW.PrintWords Go.Proofs.YtahibkfcohajcaaW.PrintLast Go.Proofs.YtahibkfcohajcaaW.PrintMore
attribute [local go_sem] max2_int min2_int max_two min_two max_three min_three max_four min_four   -- for this text's walks alone
set_option linter.unusedVariables false
set_option linter.unusedSimpArgs false

/-! ### impl_Alu: function 27 -/
mutual
def impl_Alu.j0 : Nat → Int → Int → Int → Int → Bool → Option (Int × Int)
  | 0, _, _, _, _, _ => none
  | k + 1, x0, x1, x2, x3, x31 => if x31 = true then (some (0, 0)) else (if x0 = 1 then ((impl_has.f x3 16).bind fun t199 => (impl_Alu.j1 k x0 x1 x2 0 t199)) else (if x0 = 3 then ((impl_has.f x3 16).bind fun t200 => (impl_Alu.j1 k x0 x1 x2 0 t200)) else (impl_Alu.j1 k x0 x1 x2 0 false)))
def impl_Alu.j1 : Nat → Int → Int → Int → Int → Bool → Option (Int × Int)
  | 0, _, _, _, _, _ => none
  | k + 1, x0, x1, x2, x10, x41 => if x41 = true then (impl_Alu.j2 k x0 x1 x2 1) else (impl_Alu.j2 k x0 x1 x2 x10)
def impl_Alu.j2 : Nat → Int → Int → Int → Int → Option (Int × Int)
  | 0, _, _, _, _ => none
  | k + 1, x0, x1, x2, x10 => if x0 = 0 then (impl_Alu.j3 k x0 x1 x2 x10 x0 (x0 == 0)) else (impl_Alu.j3 k x0 x1 x2 x10 x0 (x0 == 1))
def impl_Alu.j3 : Nat → Int → Int → Int → Int → Int → Bool → Option (Int × Int)
  | 0, _, _, _, _, _, _ => none
  | k + 1, x0, x1, x2, x10, x42, x43 => if x43 = true then ((impl_flags.f k ((Go.bits .and .i64 (wrap64 ((wrap64 (x1 + x2)) + x10)) 255) == 0) false (decide ((wrap64 ((wrap64 ((Go.bits .and .i64 x1 15) + (Go.bits .and .i64 x2 15))) + x10)) > 15)) (decide ((wrap64 ((wrap64 (x1 + x2)) + x10)) > 255))).bind fun t201 => (some (Go.bits .and .i64 (wrap64 ((wrap64 (x1 + x2)) + x10)) 255, t201))) else (if x42 = 4 then ((impl_flags.f k ((Go.bits .and .i64 x1 x2) == 0) false true false).bind fun t202 => (some (Go.bits .and .i64 x1 x2, t202))) else (if x42 = 5 then ((impl_flags.f k ((Go.bits .xor .i64 x1 x2) == 0) false false false).bind fun t203 => (some (Go.bits .xor .i64 x1 x2, t203))) else (if x42 = 6 then ((impl_flags.f k ((Go.bits .or .i64 x1 x2) == 0) false false false).bind fun t204 => (some (Go.bits .or .i64 x1 x2, t204))) else (if x0 = 7 then ((impl_flags.f k ((Go.bits .and .i64 (wrap64 ((wrap64 (x1 - x2)) - x10)) 255) == 0) true (decide ((Go.bits .and .i64 x1 15) < (wrap64 ((Go.bits .and .i64 x2 15) + x10)))) (decide ((wrap64 ((wrap64 (x1 - x2)) - x10)) < 0))).bind fun t205 => (some (x1, t205))) else ((impl_flags.f k ((Go.bits .and .i64 (wrap64 ((wrap64 (x1 - x2)) - x10)) 255) == 0) true (decide ((Go.bits .and .i64 x1 15) < (wrap64 ((Go.bits .and .i64 x2 15) + x10)))) (decide ((wrap64 ((wrap64 (x1 - x2)) - x10)) < 0))).bind fun t206 => (some (Go.bits .and .i64 (wrap64 ((wrap64 (x1 - x2)) - x10)) 255, t206)))))))
end
def impl_Alu.f (k : Nat) (a0 : Int) (a1 : Int) (a2 : Int) (a3 : Int) : Option (Int × Int) := (impl_within.f a0 0 7).bind fun t195 => (if t195 = true then ((impl_isByte.f a1).bind fun t196 => (if t196 = true then ((impl_isByte.f a2).bind fun t197 => (if t197 = true then ((impl_isByte.f a3).bind fun t198 => (impl_Alu.j0 k a0 a1 a2 a3 (!t198))) else (impl_Alu.j0 k a0 a1 a2 a3 true))) else (impl_Alu.j0 k a0 a1 a2 a3 true))) else (impl_Alu.j0 k a0 a1 a2 a3 true))
theorem impl_Alu.mono_l : ∀ k, (∀ y0 y1 y2 y3 y4, LeO (impl_Alu.j0 k y0 y1 y2 y3 y4) (impl_Alu.j0 (k + 1) y0 y1 y2 y3 y4)) ∧ (∀ y0 y1 y2 y3 y4, LeO (impl_Alu.j1 k y0 y1 y2 y3 y4) (impl_Alu.j1 (k + 1) y0 y1 y2 y3 y4)) ∧ (∀ y0 y1 y2 y3, LeO (impl_Alu.j2 k y0 y1 y2 y3) (impl_Alu.j2 (k + 1) y0 y1 y2 y3)) ∧ (∀ y0 y1 y2 y3 y4 y5, LeO (impl_Alu.j3 k y0 y1 y2 y3 y4 y5) (impl_Alu.j3 (k + 1) y0 y1 y2 y3 y4 y5))
  | 0 => ⟨fun _ _ _ _ _ r h => by simp [impl_Alu.j0] at h, fun _ _ _ _ _ r h => by simp [impl_Alu.j1] at h, fun _ _ _ _ r h => by simp [impl_Alu.j2] at h, fun _ _ _ _ _ _ r h => by simp [impl_Alu.j3] at h⟩
  | k + 1 => by
    obtain ⟨ih0, ih1, ih2, ih3⟩ := impl_Alu.mono_l k
    refine ⟨?_, ?_, ?_, ?_⟩
    · intro y0 y1 y2 y3 y4
      unfold impl_Alu.j0
      repeat' first
      | (with_reducible exact ih0 _ _ _ _ _)
      | (with_reducible exact ih1 _ _ _ _ _)
      | (with_reducible exact ih2 _ _ _ _)
      | (with_reducible exact ih3 _ _ _ _ _ _)
      | (with_reducible exact impl_flags.mono _ _ _ _ _)
      | (with_reducible exact LeO.refl _)
      | (with_reducible exact LeO.none _)
      | (with_reducible refine LeO.ite ?_ ?_)
      | (with_reducible refine LeO.bind ?_ (fun _ => ?_))
      | exact ih0 _ _ _ _ _
      | exact ih1 _ _ _ _ _
      | exact ih2 _ _ _ _
      | exact ih3 _ _ _ _ _ _
      | exact impl_flags.mono _ _ _ _ _
      | exact LeO.none _
      | refine LeO.ite ?_ ?_
      | refine LeO.bind ?_ (fun _ => ?_)
    · intro y0 y1 y2 y3 y4
      unfold impl_Alu.j1
      repeat' first
      | (with_reducible exact ih0 _ _ _ _ _)
      | (with_reducible exact ih1 _ _ _ _ _)
      | (with_reducible exact ih2 _ _ _ _)
      | (with_reducible exact ih3 _ _ _ _ _ _)
      | (with_reducible exact impl_flags.mono _ _ _ _ _)
      | (with_reducible exact LeO.refl _)
      | (with_reducible exact LeO.none _)
      | (with_reducible refine LeO.ite ?_ ?_)
      | (with_reducible refine LeO.bind ?_ (fun _ => ?_))
      | exact ih0 _ _ _ _ _
      | exact ih1 _ _ _ _ _
      | exact ih2 _ _ _ _
      | exact ih3 _ _ _ _ _ _
      | exact impl_flags.mono _ _ _ _ _
      | exact LeO.none _
      | refine LeO.ite ?_ ?_
      | refine LeO.bind ?_ (fun _ => ?_)
    · intro y0 y1 y2 y3
      unfold impl_Alu.j2
      repeat' first
      | (with_reducible exact ih0 _ _ _ _ _)
      | (with_reducible exact ih1 _ _ _ _ _)
      | (with_reducible exact ih2 _ _ _ _)
      | (with_reducible exact ih3 _ _ _ _ _ _)
      | (with_reducible exact impl_flags.mono _ _ _ _ _)
      | (with_reducible exact LeO.refl _)
      | (with_reducible exact LeO.none _)
      | (with_reducible refine LeO.ite ?_ ?_)
      | (with_reducible refine LeO.bind ?_ (fun _ => ?_))
      | exact ih0 _ _ _ _ _
      | exact ih1 _ _ _ _ _
      | exact ih2 _ _ _ _
      | exact ih3 _ _ _ _ _ _
      | exact impl_flags.mono _ _ _ _ _
      | exact LeO.none _
      | refine LeO.ite ?_ ?_
      | refine LeO.bind ?_ (fun _ => ?_)
    · intro y0 y1 y2 y3 y4 y5
      unfold impl_Alu.j3
      repeat' first
      | (with_reducible exact ih0 _ _ _ _ _)
      | (with_reducible exact ih1 _ _ _ _ _)
      | (with_reducible exact ih2 _ _ _ _)
      | (with_reducible exact ih3 _ _ _ _ _ _)
      | (with_reducible exact impl_flags.mono _ _ _ _ _)
      | (with_reducible exact LeO.refl _)
      | (with_reducible exact LeO.none _)
      | (with_reducible refine LeO.ite ?_ ?_)
      | (with_reducible refine LeO.bind ?_ (fun _ => ?_))
      | exact ih0 _ _ _ _ _
      | exact ih1 _ _ _ _ _
      | exact ih2 _ _ _ _
      | exact ih3 _ _ _ _ _ _
      | exact impl_flags.mono _ _ _ _ _
      | exact LeO.none _
      | refine LeO.ite ?_ ?_
      | refine LeO.bind ?_ (fun _ => ?_)
theorem impl_Alu.mono : ∀ a0 a1 a2 a3 k, LeO (impl_Alu.f k a0 a1 a2 a3) (impl_Alu.f (k + 1) a0 a1 a2 a3) := by
  intro a0 a1 a2 a3 k
  obtain ⟨ih0, ih1, ih2, ih3⟩ := impl_Alu.mono_l k
  unfold impl_Alu.f
  repeat' first
      | (with_reducible exact ih0 _ _ _ _ _)
      | (with_reducible exact ih1 _ _ _ _ _)
      | (with_reducible exact ih2 _ _ _ _)
      | (with_reducible exact ih3 _ _ _ _ _ _)
      | (with_reducible exact impl_flags.mono _ _ _ _ _)
      | (with_reducible exact LeO.refl _)
      | (with_reducible exact LeO.none _)
      | (with_reducible refine LeO.ite ?_ ?_)
      | (with_reducible refine LeO.bind ?_ (fun _ => ?_))
      | exact ih0 _ _ _ _ _
      | exact ih1 _ _ _ _ _
      | exact ih2 _ _ _ _
      | exact ih3 _ _ _ _ _ _
      | exact impl_flags.mono _ _ _ _ _
      | exact LeO.none _
      | refine LeO.ite ?_ ?_
      | refine LeO.bind ?_ (fun _ => ?_)
set_option maxHeartbeats 8000000 in
set_option maxRecDepth 100000 in
theorem impl_Alu.calls (k : Nat) (a0 : Int) (a1 : Int) (a2 : Int) (a3 : Int) (r1 : Int) (r2 : Int) (w : World) (h : impl_Alu.f k a0 a1 a2 a3 = some (r1, r2)) :
    Calls Try.prog 27 #[.int .i64 a0, .int .i64 a1, .int .i64 a2, .int .i64 a3] w fun e w' => e = .returned (.tuple #[.int .i64 r1, .int .i64 r2]) ∧ Drawn0 w w' := by
  have H : ((impl_within.f a0 0 7).bind fun t195 => (if t195 = true then ((impl_isByte.f a1).bind fun t196 => (if t196 = true then ((impl_isByte.f a2).bind fun t197 => (if t197 = true then ((impl_isByte.f a3).bind fun t198 => (impl_Alu.j0 k a0 a1 a2 a3 (!t198))) else (impl_Alu.j0 k a0 a1 a2 a3 true))) else (impl_Alu.j0 k a0 a1 a2 a3 true))) else (impl_Alu.j0 k a0 a1 a2 a3 true))) = some (r1, r2) := h
  clear h
  have HC5 := Aside0.mk H
  clear H
  go_enter Try.func27, Try.ntmps27
  go_upto_region 1 with (fail)
  go_cut [31] (fun v31 wc => ∃ (kq : Nat) (x31_4 : Bool), v31 = .bool x31_4 ∧ Aside0 (impl_Alu.j0 kq a0 a1 a2 a3 x31_4 = some (r1, r2)) ∧ Aside0 (kq ≤ k) ∧ Drawn0 w wc)
  case first =>
    have H := HC5.out
    clear HC5
    replace H := Option.bind_eq_some_iff.mp H
    obtain ⟨t195, A60, H⟩ := H
    replace H : (if t195 = true then ((impl_isByte.f a1).bind fun t196 => (if t196 = true then ((impl_isByte.f a2).bind fun t197 => (if t197 = true then ((impl_isByte.f a3).bind fun t198 => (impl_Alu.j0 k a0 a1 a2 a3 (!t198))) else (impl_Alu.j0 k a0 a1 a2 a3 true))) else (impl_Alu.j0 k a0 a1 a2 a3 true))) else (impl_Alu.j0 k a0 a1 a2 a3 true)) = some (r1, r2) := H
    have A6 := Aside0.mk A60
    clear A60
    by_cases c7 : t195 = true
    · subst c7
      have H1 : ((impl_isByte.f a1).bind fun t196 => (if t196 = true then ((impl_isByte.f a2).bind fun t197 => (if t197 = true then ((impl_isByte.f a3).bind fun t198 => (impl_Alu.j0 k a0 a1 a2 a3 (!t198))) else (impl_Alu.j0 k a0 a1 a2 a3 true))) else (impl_Alu.j0 k a0 a1 a2 a3 true))) = some (r1, r2) := by rw [if_pos rfl] at H; exact H
      clear H
      have H := H1
      clear H1
      replace H := Option.bind_eq_some_iff.mp H
      obtain ⟨t196, A80, H⟩ := H
      replace H : (if t196 = true then ((impl_isByte.f a2).bind fun t197 => (if t197 = true then ((impl_isByte.f a3).bind fun t198 => (impl_Alu.j0 k a0 a1 a2 a3 (!t198))) else (impl_Alu.j0 k a0 a1 a2 a3 true))) else (impl_Alu.j0 k a0 a1 a2 a3 true)) = some (r1, r2) := H
      have A8 := Aside0.mk A80
      clear A80
      by_cases c9 : t196 = true
      · subst c9
        have H1 : ((impl_isByte.f a2).bind fun t197 => (if t197 = true then ((impl_isByte.f a3).bind fun t198 => (impl_Alu.j0 k a0 a1 a2 a3 (!t198))) else (impl_Alu.j0 k a0 a1 a2 a3 true))) = some (r1, r2) := by rw [if_pos rfl] at H; exact H
        clear H
        have H := H1
        clear H1
        replace H := Option.bind_eq_some_iff.mp H
        obtain ⟨t197, A100, H⟩ := H
        replace H : (if t197 = true then ((impl_isByte.f a3).bind fun t198 => (impl_Alu.j0 k a0 a1 a2 a3 (!t198))) else (impl_Alu.j0 k a0 a1 a2 a3 true)) = some (r1, r2) := H
        have A10 := Aside0.mk A100
        clear A100
        by_cases c11 : t197 = true
        · subst c11
          have H1 : ((impl_isByte.f a3).bind fun t198 => (impl_Alu.j0 k a0 a1 a2 a3 (!t198))) = some (r1, r2) := by rw [if_pos rfl] at H; exact H
          clear H
          have H := H1
          clear H1
          replace H := Option.bind_eq_some_iff.mp H
          obtain ⟨t198, A120, H⟩ := H
          replace H : (impl_Alu.j0 k a0 a1 a2 a3 (!t198)) = some (r1, r2) := H
          have A12 := Aside0.mk A120
          clear A120
          have H' := Aside0.mk H
          clear H
          go_wp2_with (first | ((with_reducible refine gate_callee (f := 60) rfl ?_); refine goesL_ (some 15) rfl rfl Try.func60 (by kernel_rfl) rfl #[.int .i64 a0, .int .i64 0, .int .i64 7] rfl (by (try simp only [List.map_toArray, List.map_cons, List.map_nil]); first | done | rfl | (simp only [List.length_drop, List.length_take]; rfl)) ?_; (with_reducible refine (impl_within.calls a0 0 7 true _ A6.out).mono ?_); rintro e w' ⟨rfl, ⟨nd, rfl⟩⟩; refine ⟨_, rfl, ?_⟩) | (go_at_call 57; (with_reducible refine (impl_isByte.calls a1 true _ A8.out).mono ?_); rintro e w' ⟨rfl, ⟨nd, rfl⟩⟩) | (go_at_call 57; (with_reducible refine (impl_isByte.calls a2 true _ A10.out).mono ?_); rintro e w' ⟨rfl, ⟨nd, rfl⟩⟩) | (go_at_call 57; (with_reducible refine (impl_isByte.calls a3 t198 _ A12.out).mono ?_); rintro e w' ⟨rfl, ⟨nd, rfl⟩⟩))
          go_meet
          case rel => exact ⟨_, (!t198), (by first | rfl | (simp; done) | (simp [*]; done) | (simp; decide +kernel) | (simp [wrap64]; done)), H', ⟨by first | omega | exact Nat.le_refl _⟩, by repeat (first | exact Drawn0.refl _ | apply Drawn0.step)⟩
        · replace c11 := Bool.eq_false_iff.mpr c11
          subst c11
          have H1 : (impl_Alu.j0 k a0 a1 a2 a3 true) = some (r1, r2) := by rw [if_neg (show ¬ (false = true) by decide)] at H; exact H
          clear H
          have H := H1
          clear H1
          have H' := Aside0.mk H
          clear H
          go_wp2_with (first | ((with_reducible refine gate_callee (f := 60) rfl ?_); refine goesL_ (some 15) rfl rfl Try.func60 (by kernel_rfl) rfl #[.int .i64 a0, .int .i64 0, .int .i64 7] rfl (by (try simp only [List.map_toArray, List.map_cons, List.map_nil]); first | done | rfl | (simp only [List.length_drop, List.length_take]; rfl)) ?_; (with_reducible refine (impl_within.calls a0 0 7 true _ A6.out).mono ?_); rintro e w' ⟨rfl, ⟨nd, rfl⟩⟩; refine ⟨_, rfl, ?_⟩) | (go_at_call 57; (with_reducible refine (impl_isByte.calls a1 true _ A8.out).mono ?_); rintro e w' ⟨rfl, ⟨nd, rfl⟩⟩) | (go_at_call 57; (with_reducible refine (impl_isByte.calls a2 false _ A10.out).mono ?_); rintro e w' ⟨rfl, ⟨nd, rfl⟩⟩))
          go_meet
          case rel => exact ⟨_, (true), (by first | rfl | (simp; done) | (simp [*]; done) | (simp; decide +kernel) | (simp [wrap64]; done)), H', ⟨by first | omega | exact Nat.le_refl _⟩, by repeat (first | exact Drawn0.refl _ | apply Drawn0.step)⟩
      · replace c9 := Bool.eq_false_iff.mpr c9
        subst c9
        have H1 : (impl_Alu.j0 k a0 a1 a2 a3 true) = some (r1, r2) := by rw [if_neg (show ¬ (false = true) by decide)] at H; exact H
        clear H
        have H := H1
        clear H1
        have H' := Aside0.mk H
        clear H
        go_wp2_with (first | ((with_reducible refine gate_callee (f := 60) rfl ?_); refine goesL_ (some 15) rfl rfl Try.func60 (by kernel_rfl) rfl #[.int .i64 a0, .int .i64 0, .int .i64 7] rfl (by (try simp only [List.map_toArray, List.map_cons, List.map_nil]); first | done | rfl | (simp only [List.length_drop, List.length_take]; rfl)) ?_; (with_reducible refine (impl_within.calls a0 0 7 true _ A6.out).mono ?_); rintro e w' ⟨rfl, ⟨nd, rfl⟩⟩; refine ⟨_, rfl, ?_⟩) | (go_at_call 57; (with_reducible refine (impl_isByte.calls a1 false _ A8.out).mono ?_); rintro e w' ⟨rfl, ⟨nd, rfl⟩⟩))
        go_meet
        case rel => exact ⟨_, (true), (by first | rfl | (simp; done) | (simp [*]; done) | (simp; decide +kernel) | (simp [wrap64]; done)), H', ⟨by first | omega | exact Nat.le_refl _⟩, by repeat (first | exact Drawn0.refl _ | apply Drawn0.step)⟩
    · replace c7 := Bool.eq_false_iff.mpr c7
      subst c7
      have H1 : (impl_Alu.j0 k a0 a1 a2 a3 true) = some (r1, r2) := by rw [if_neg (show ¬ (false = true) by decide)] at H; exact H
      clear H
      have H := H1
      clear H1
      have H' := Aside0.mk H
      clear H
      go_wp2_with (first | ((with_reducible refine gate_callee (f := 60) rfl ?_); refine goesL_ (some 15) rfl rfl Try.func60 (by kernel_rfl) rfl #[.int .i64 a0, .int .i64 0, .int .i64 7] rfl (by (try simp only [List.map_toArray, List.map_cons, List.map_nil]); first | done | rfl | (simp only [List.length_drop, List.length_take]; rfl)) ?_; (with_reducible refine (impl_within.calls a0 0 7 false _ A6.out).mono ?_); rintro e w' ⟨rfl, ⟨nd, rfl⟩⟩; refine ⟨_, rfl, ?_⟩))
      go_meet
      case rel => exact ⟨_, (true), (by first | rfl | (simp; done) | (simp [*]; done) | (simp; decide +kernel) | (simp [wrap64]; done)), H', ⟨by first | omega | exact Nat.le_refl _⟩, by repeat (first | exact Drawn0.refl _ | apply Drawn0.step)⟩
  case rest =>
    clear HC5
    try clear c1
    try clear c2
    try clear p2
    try clear c6
    try clear p6
    try clear c7
    try clear c9
    try clear c11
    obtain ⟨kq, x31_4, rfl, HA, HJ4, ⟨mc4, rfl⟩⟩ := hcut
    cases kq with
    | zero => exact absurd HA.out (by simp [impl_Alu.j0])
    | succ kj4 =>
      have H := HA.out
      clear HA
      simp only [impl_Alu.j0] at H
      by_cases c13 : x31_4 = true
      · subst c13
        have H1 : (some (0, 0)) = some (r1, r2) := by rw [if_pos rfl] at H; exact H
        clear H
        have H := H1
        clear H1
        simp only [Option.some.injEq, Prod.mk.injEq] at H
        obtain ⟨rfl, rfl⟩ := H
        go_wp2
        go_ret2
        exact ⟨by first | rfl | (simp; done) | (simp [*]; done) | (simp; decide +kernel) | (simp [wrap64]; done), by repeat (first | exact Drawn0.refl _ | apply Drawn0.step)⟩
      · replace c13 := Bool.eq_false_iff.mpr c13
        subst c13
        have H1 : (if a0 = 1 then ((impl_has.f a3 16).bind fun t199 => (impl_Alu.j1 kj4 a0 a1 a2 0 t199)) else (if a0 = 3 then ((impl_has.f a3 16).bind fun t200 => (impl_Alu.j1 kj4 a0 a1 a2 0 t200)) else (impl_Alu.j1 kj4 a0 a1 a2 0 false))) = some (r1, r2) := by rw [if_neg (show ¬ (false = true) by decide)] at H; exact H
        clear H
        have H := H1
        clear H1
        have HC14 := Aside0.mk H
        clear H
        go_upto_region 4 with (fail)
        go_cut [41] (fun v41 wc => ∃ (kq : Nat) (x41_13 : Bool), v41 = .bool x41_13 ∧ Aside0 (impl_Alu.j1 kq a0 a1 a2 0 x41_13 = some (r1, r2)) ∧ Aside0 (kq ≤ kj4) ∧ Drawn0 w wc)
        case first =>
          have H := HC14.out
          clear HC14
          by_cases c15 : a0 = 1
          · rw [if_pos c15] at H
            have c15b0 : (a0 == 1) = true := beq_iff_eq.mpr c15
            have c15b1 : (a0 != 1) = false := bne_eq_false_iff_eq.mpr c15
            clear c15
            (first | rw [c15b0] | (simp only [i64_w, i32_w]; rw [c15b0]) | skip)
            replace H := Option.bind_eq_some_iff.mp H
            obtain ⟨t199, A160, H⟩ := H
            replace H : (impl_Alu.j1 kj4 a0 a1 a2 0 t199) = some (r1, r2) := H
            have A16 := Aside0.mk A160
            clear A160
            have H' := Aside0.mk H
            clear H
            go_wp2_with (first | (go_at_call 65; (with_reducible refine (impl_has.calls a3 16 t199 _ A16.out).mono ?_); rintro e w' ⟨rfl, ⟨nd, rfl⟩⟩))
            go_meet
            case rel => exact ⟨_, (t199), (by first | rfl | (simp; done) | (simp [*]; done) | (simp; decide +kernel) | (simp [wrap64]; done)), H', ⟨by have := HJ4.out; first | omega | exact Nat.le_refl _⟩, by repeat (first | exact Drawn0.refl _ | apply Drawn0.step)⟩
          · rw [if_neg c15] at H
            have c15b0 : (a0 == 1) = false := beq_eq_false_iff_ne.mpr c15
            have c15b1 : (a0 != 1) = true := bne_iff_ne.mpr c15
            (first | rw [c15b0] | (simp only [i64_w, i32_w]; rw [c15b0]) | skip)
            by_cases c17 : a0 = 3
            · rw [if_pos c17] at H
              have c17b0 : (a0 == 3) = true := beq_iff_eq.mpr c17
              have c17b1 : (a0 != 3) = false := bne_eq_false_iff_eq.mpr c17
              clear c17
              replace H := Option.bind_eq_some_iff.mp H
              obtain ⟨t200, A180, H⟩ := H
              replace H : (impl_Alu.j1 kj4 a0 a1 a2 0 t200) = some (r1, r2) := H
              have A18 := Aside0.mk A180
              clear A180
              have H' := Aside0.mk H
              clear H
              go_wp2_with (first | (go_at_call 65; (with_reducible refine (impl_has.calls a3 16 t200 _ A18.out).mono ?_); rintro e w' ⟨rfl, ⟨nd, rfl⟩⟩))
              go_meet
              case rel => exact ⟨_, (t200), (by first | rfl | (simp; done) | (simp [*]; done) | (simp; decide +kernel) | (simp [wrap64]; done)), H', ⟨by have := HJ4.out; first | omega | exact Nat.le_refl _⟩, by repeat (first | exact Drawn0.refl _ | apply Drawn0.step)⟩
            · rw [if_neg c17] at H
              have c17b0 : (a0 == 3) = false := beq_eq_false_iff_ne.mpr c17
              have c17b1 : (a0 != 3) = true := bne_iff_ne.mpr c17
              have H' := Aside0.mk H
              clear H
              go_wp2
              go_meet
              case rel => exact ⟨_, (false), (by first | rfl | (simp; done) | (simp [*]; done) | (simp; decide +kernel) | (simp [wrap64]; done)), H', ⟨by have := HJ4.out; first | omega | exact Nat.le_refl _⟩, by repeat (first | exact Drawn0.refl _ | apply Drawn0.step)⟩
        case rest =>
          clear HC14
          try clear c1
          try clear c2
          try clear p2
          try clear c4
          try clear c6
          try clear p6
          try clear c7
          try clear c9
          try clear c11
          try clear c13
          try clear c15
          try clear c15b0
          try clear c15b1
          try clear c17
          try clear c17b0
          try clear c17b1
          try clear p2
          try clear p6
          obtain ⟨kq, x41_13, rfl, HA, HJ13, ⟨mc13, rfl⟩⟩ := hcut
          cases kq with
          | zero => exact absurd HA.out (by simp [impl_Alu.j1])
          | succ kj13 =>
            have H := HA.out
            clear HA
            simp only [impl_Alu.j1] at H
            have HC19 := Aside0.mk H
            clear H
            go_upto_if 41 with (fail)
            go_cut [10] (fun v10 wc => ∃ (kq : Nat) (x10_18 : Int), v10 = .int .i64 x10_18 ∧ Aside0 (impl_Alu.j2 kq a0 a1 a2 x10_18 = some (r1, r2)) ∧ Aside0 (kq ≤ kj13) ∧ Drawn0 w wc)
            case first =>
              have H := HC19.out
              clear HC19
              by_cases c20 : x41_13 = true
              · subst c20
                have H1 : (impl_Alu.j2 kj13 a0 a1 a2 1) = some (r1, r2) := by rw [if_pos rfl] at H; exact H
                clear H
                have H := H1
                clear H1
                have H' := Aside0.mk H
                clear H
                go_wp2
                go_meet
                case rel => exact ⟨_, (1), (by first | rfl | (simp; done) | (simp [*]; done) | (simp; decide +kernel) | (simp [wrap64]; done)), H', ⟨by have := HJ4.out; have := HJ13.out; first | omega | exact Nat.le_refl _⟩, by repeat (first | exact Drawn0.refl _ | apply Drawn0.step)⟩
              · replace c20 := Bool.eq_false_iff.mpr c20
                subst c20
                have H1 : (impl_Alu.j2 kj13 a0 a1 a2 0) = some (r1, r2) := by rw [if_neg (show ¬ (false = true) by decide)] at H; exact H
                clear H
                have H := H1
                clear H1
                have H' := Aside0.mk H
                clear H
                go_wp2
                go_meet
                case rel => exact ⟨_, (0), (by first | rfl | (simp; done) | (simp [*]; done) | (simp; decide +kernel) | (simp [wrap64]; done)), H', ⟨by have := HJ4.out; have := HJ13.out; first | omega | exact Nat.le_refl _⟩, by repeat (first | exact Drawn0.refl _ | apply Drawn0.step)⟩
            case rest =>
              clear HC19
              try clear c1
              try clear c2
              try clear p2
              try clear c4
              try clear c6
              try clear p6
              try clear c7
              try clear c9
              try clear c11
              try clear c13
              try clear c15
              try clear c15b0
              try clear c15b1
              try clear c17
              try clear c17b0
              try clear c17b1
              try clear c20
              try clear p2
              try clear p6
              obtain ⟨kq, x10_18, rfl, HA, HJ18, ⟨mc18, rfl⟩⟩ := hcut
              cases kq with
              | zero => exact absurd HA.out (by simp [impl_Alu.j2])
              | succ kj18 =>
                have H := HA.out
                clear HA
                simp only [impl_Alu.j2] at H
                have HC21 := Aside0.mk H
                clear H
                go_upto_if 43 with (fail)
                go_cut [43] (fun v43 wc => ∃ (kq : Nat) (x43_20 : Bool), v43 = .bool x43_20 ∧ Aside0 (impl_Alu.j3 kq a0 a1 a2 x10_18 a0 x43_20 = some (r1, r2)) ∧ Aside0 (kq ≤ kj18) ∧ Drawn0 w wc)
                case first =>
                  have H := HC21.out
                  clear HC21
                  by_cases c22 : a0 = 0
                  · rw [if_pos c22] at H
                    have c22b0 : (a0 == 0) = true := beq_iff_eq.mpr c22
                    have c22b1 : (a0 != 0) = false := bne_eq_false_iff_eq.mpr c22
                    clear c22
                    (first | rw [c22b0] | (simp only [i64_w, i32_w]; rw [c22b0]) | skip)
                    have H' := Aside0.mk H
                    clear H
                    go_wp2
                    go_meet
                    case rel => exact ⟨_, ((a0 == 0)), (by first | rfl | (simp; done) | (simp [*]; done) | (simp; decide +kernel) | (simp [wrap64]; done)), H', ⟨by have := HJ4.out; have := HJ13.out; have := HJ18.out; first | omega | exact Nat.le_refl _⟩, by repeat (first | exact Drawn0.refl _ | apply Drawn0.step)⟩
                  · rw [if_neg c22] at H
                    have c22b0 : (a0 == 0) = false := beq_eq_false_iff_ne.mpr c22
                    have c22b1 : (a0 != 0) = true := bne_iff_ne.mpr c22
                    (first | rw [c22b0] | (simp only [i64_w, i32_w]; rw [c22b0]) | skip)
                    have H' := Aside0.mk H
                    clear H
                    go_wp2
                    go_meet
                    case rel => exact ⟨_, ((a0 == 1)), (by first | rfl | (simp; done) | (simp [*]; done) | (simp; decide +kernel) | (simp [wrap64]; done)), H', ⟨by have := HJ4.out; have := HJ13.out; have := HJ18.out; first | omega | exact Nat.le_refl _⟩, by repeat (first | exact Drawn0.refl _ | apply Drawn0.step)⟩
                case rest =>
                  clear HC21
                  try clear c1
                  try clear c2
                  try clear p2
                  try clear c4
                  try clear c6
                  try clear p6
                  try clear c7
                  try clear c9
                  try clear c11
                  try clear c13
                  try clear c15
                  try clear c15b0
                  try clear c15b1
                  try clear c17
                  try clear c17b0
                  try clear c17b1
                  try clear c18
                  try clear c20
                  try clear c22
                  try clear c22b0
                  try clear c22b1
                  try clear p2
                  try clear p6
                  obtain ⟨kq, x43_20, rfl, HA, HJ20, ⟨mc20, rfl⟩⟩ := hcut
                  cases kq with
                  | zero => exact absurd HA.out (by simp [impl_Alu.j3])
                  | succ kj20 =>
                    have H := HA.out
                    clear HA
                    simp only [impl_Alu.j3] at H
                    by_cases c23 : x43_20 = true
                    · subst c23
                      have H1 : ((impl_flags.f kj20 ((Go.bits .and .i64 (wrap64 ((wrap64 (a1 + a2)) + x10_18)) 255) == 0) false (decide ((wrap64 ((wrap64 ((Go.bits .and .i64 a1 15) + (Go.bits .and .i64 a2 15))) + x10_18)) > 15)) (decide ((wrap64 ((wrap64 (a1 + a2)) + x10_18)) > 255))).bind fun t201 => (some (Go.bits .and .i64 (wrap64 ((wrap64 (a1 + a2)) + x10_18)) 255, t201))) = some (r1, r2) := by rw [if_pos rfl] at H; exact H
                      clear H
                      have H := H1
                      clear H1
                      replace H := Option.bind_eq_some_iff.mp H
                      obtain ⟨t201, A240, H⟩ := H
                      replace H : (some (Go.bits .and .i64 (wrap64 ((wrap64 (a1 + a2)) + x10_18)) 255, t201)) = some (r1, r2) := H
                      have A24 := Aside0.mk A240
                      clear A240
                      simp only [Option.some.injEq, Prod.mk.injEq] at H
                      obtain ⟨rfl, rfl⟩ := H
                      go_wp2_with (first | ((with_reducible refine gate_callee (f := 66) rfl ?_); refine goesL_ (some 66) rfl rfl Try.func66 (by kernel_rfl) rfl #[.bool ((Go.bits .and .i64 (wrap64 ((wrap64 (a1 + a2)) + x10_18)) 255) == 0), .bool false, .bool (decide ((wrap64 ((wrap64 ((Go.bits .and .i64 a1 15) + (Go.bits .and .i64 a2 15))) + x10_18)) > 15)), .bool (decide ((wrap64 ((wrap64 (a1 + a2)) + x10_18)) > 255))] rfl (by (try simp only [List.map_toArray, List.map_cons, List.map_nil]); first | done | rfl | (simp only [List.length_drop, List.length_take]; rfl)) ?_; (with_reducible refine (impl_flags.calls kj20 ((Go.bits .and .i64 (wrap64 ((wrap64 (a1 + a2)) + x10_18)) 255) == 0) false (decide ((wrap64 ((wrap64 ((Go.bits .and .i64 a1 15) + (Go.bits .and .i64 a2 15))) + x10_18)) > 15)) (decide ((wrap64 ((wrap64 (a1 + a2)) + x10_18)) > 255)) t201 _ A24.out).mono ?_); rintro e w' ⟨rfl, ⟨nd, rfl⟩⟩; refine ⟨_, rfl, ?_⟩))
                      go_ret2
                      exact ⟨by first | rfl | (simp; done) | (simp [*]; done) | (simp; decide +kernel) | (simp [wrap64]; done), by repeat (first | exact Drawn0.refl _ | apply Drawn0.step)⟩
                    · replace c23 := Bool.eq_false_iff.mpr c23
                      subst c23
                      have H1 : (if a0 = 4 then ((impl_flags.f kj20 ((Go.bits .and .i64 a1 a2) == 0) false true false).bind fun t202 => (some (Go.bits .and .i64 a1 a2, t202))) else (if a0 = 5 then ((impl_flags.f kj20 ((Go.bits .xor .i64 a1 a2) == 0) false false false).bind fun t203 => (some (Go.bits .xor .i64 a1 a2, t203))) else (if a0 = 6 then ((impl_flags.f kj20 ((Go.bits .or .i64 a1 a2) == 0) false false false).bind fun t204 => (some (Go.bits .or .i64 a1 a2, t204))) else (if a0 = 7 then ((impl_flags.f kj20 ((Go.bits .and .i64 (wrap64 ((wrap64 (a1 - a2)) - x10_18)) 255) == 0) true (decide ((Go.bits .and .i64 a1 15) < (wrap64 ((Go.bits .and .i64 a2 15) + x10_18)))) (decide ((wrap64 ((wrap64 (a1 - a2)) - x10_18)) < 0))).bind fun t205 => (some (a1, t205))) else ((impl_flags.f kj20 ((Go.bits .and .i64 (wrap64 ((wrap64 (a1 - a2)) - x10_18)) 255) == 0) true (decide ((Go.bits .and .i64 a1 15) < (wrap64 ((Go.bits .and .i64 a2 15) + x10_18)))) (decide ((wrap64 ((wrap64 (a1 - a2)) - x10_18)) < 0))).bind fun t206 => (some (Go.bits .and .i64 (wrap64 ((wrap64 (a1 - a2)) - x10_18)) 255, t206))))))) = some (r1, r2) := by rw [if_neg (show ¬ (false = true) by decide)] at H; exact H
                      clear H
                      have H := H1
                      clear H1
                      by_cases c25 : a0 = 4
                      · rw [if_pos c25] at H
                        have c25b0 : (a0 == 4) = true := beq_iff_eq.mpr c25
                        have c25b1 : (a0 != 4) = false := bne_eq_false_iff_eq.mpr c25
                        clear c25
                        replace H := Option.bind_eq_some_iff.mp H
                        obtain ⟨t202, A260, H⟩ := H
                        replace H : (some (Go.bits .and .i64 a1 a2, t202)) = some (r1, r2) := H
                        have A26 := Aside0.mk A260
                        clear A260
                        simp only [Option.some.injEq, Prod.mk.injEq] at H
                        obtain ⟨rfl, rfl⟩ := H
                        go_wp2_with (first | ((with_reducible refine gate_callee (f := 66) rfl ?_); refine goesL_ (some 76) rfl rfl Try.func66 (by kernel_rfl) rfl #[.bool ((Go.bits .and .i64 a1 a2) == 0), .bool false, .bool true, .bool false] rfl (by (try simp only [List.map_toArray, List.map_cons, List.map_nil]); first | done | rfl | (simp only [List.length_drop, List.length_take]; rfl)) ?_; (with_reducible refine (impl_flags.calls kj20 ((Go.bits .and .i64 a1 a2) == 0) false true false t202 _ A26.out).mono ?_); rintro e w' ⟨rfl, ⟨nd, rfl⟩⟩; refine ⟨_, rfl, ?_⟩))
                        go_ret2
                        exact ⟨by first | rfl | (simp; done) | (simp [*]; done) | (simp; decide +kernel) | (simp [wrap64]; done), by repeat (first | exact Drawn0.refl _ | apply Drawn0.step)⟩
                      · rw [if_neg c25] at H
                        have c25b0 : (a0 == 4) = false := beq_eq_false_iff_ne.mpr c25
                        have c25b1 : (a0 != 4) = true := bne_iff_ne.mpr c25
                        by_cases c27 : a0 = 5
                        · rw [if_pos c27] at H
                          have c27b0 : (a0 == 5) = true := beq_iff_eq.mpr c27
                          have c27b1 : (a0 != 5) = false := bne_eq_false_iff_eq.mpr c27
                          clear c27
                          replace H := Option.bind_eq_some_iff.mp H
                          obtain ⟨t203, A280, H⟩ := H
                          replace H : (some (Go.bits .xor .i64 a1 a2, t203)) = some (r1, r2) := H
                          have A28 := Aside0.mk A280
                          clear A280
                          simp only [Option.some.injEq, Prod.mk.injEq] at H
                          obtain ⟨rfl, rfl⟩ := H
                          go_wp2_with (first | ((with_reducible refine gate_callee (f := 66) rfl ?_); refine goesL_ (some 86) rfl rfl Try.func66 (by kernel_rfl) rfl #[.bool ((Go.bits .xor .i64 a1 a2) == 0), .bool false, .bool false, .bool false] rfl (by (try simp only [List.map_toArray, List.map_cons, List.map_nil]); first | done | rfl | (simp only [List.length_drop, List.length_take]; rfl)) ?_; (with_reducible refine (impl_flags.calls kj20 ((Go.bits .xor .i64 a1 a2) == 0) false false false t203 _ A28.out).mono ?_); rintro e w' ⟨rfl, ⟨nd, rfl⟩⟩; refine ⟨_, rfl, ?_⟩))
                          go_ret2
                          exact ⟨by first | rfl | (simp; done) | (simp [*]; done) | (simp; decide +kernel) | (simp [wrap64]; done), by repeat (first | exact Drawn0.refl _ | apply Drawn0.step)⟩
                        · rw [if_neg c27] at H
                          have c27b0 : (a0 == 5) = false := beq_eq_false_iff_ne.mpr c27
                          have c27b1 : (a0 != 5) = true := bne_iff_ne.mpr c27
                          by_cases c29 : a0 = 6
                          · rw [if_pos c29] at H
                            have c29b0 : (a0 == 6) = true := beq_iff_eq.mpr c29
                            have c29b1 : (a0 != 6) = false := bne_eq_false_iff_eq.mpr c29
                            clear c29
                            replace H := Option.bind_eq_some_iff.mp H
                            obtain ⟨t204, A300, H⟩ := H
                            replace H : (some (Go.bits .or .i64 a1 a2, t204)) = some (r1, r2) := H
                            have A30 := Aside0.mk A300
                            clear A300
                            simp only [Option.some.injEq, Prod.mk.injEq] at H
                            obtain ⟨rfl, rfl⟩ := H
                            go_wp2_with (first | ((with_reducible refine gate_callee (f := 66) rfl ?_); refine goesL_ (some 96) rfl rfl Try.func66 (by kernel_rfl) rfl #[.bool ((Go.bits .or .i64 a1 a2) == 0), .bool false, .bool false, .bool false] rfl (by (try simp only [List.map_toArray, List.map_cons, List.map_nil]); first | done | rfl | (simp only [List.length_drop, List.length_take]; rfl)) ?_; (with_reducible refine (impl_flags.calls kj20 ((Go.bits .or .i64 a1 a2) == 0) false false false t204 _ A30.out).mono ?_); rintro e w' ⟨rfl, ⟨nd, rfl⟩⟩; refine ⟨_, rfl, ?_⟩))
                            go_ret2
                            exact ⟨by first | rfl | (simp; done) | (simp [*]; done) | (simp; decide +kernel) | (simp [wrap64]; done), by repeat (first | exact Drawn0.refl _ | apply Drawn0.step)⟩
                          · rw [if_neg c29] at H
                            have c29b0 : (a0 == 6) = false := beq_eq_false_iff_ne.mpr c29
                            have c29b1 : (a0 != 6) = true := bne_iff_ne.mpr c29
                            by_cases c31 : a0 = 7
                            · rw [if_pos c31] at H
                              have c31b0 : (a0 == 7) = true := beq_iff_eq.mpr c31
                              have c31b1 : (a0 != 7) = false := bne_eq_false_iff_eq.mpr c31
                              clear c31
                              replace H := Option.bind_eq_some_iff.mp H
                              obtain ⟨t205, A320, H⟩ := H
                              replace H : (some (a1, t205)) = some (r1, r2) := H
                              have A32 := Aside0.mk A320
                              clear A320
                              simp only [Option.some.injEq, Prod.mk.injEq] at H
                              obtain ⟨rfl, rfl⟩ := H
                              go_wp2_with (first | ((with_reducible refine gate_callee (f := 66) rfl ?_); refine goesL_ (some 120) rfl rfl Try.func66 (by kernel_rfl) rfl #[.bool ((Go.bits .and .i64 (wrap64 ((wrap64 (a1 - a2)) - x10_18)) 255) == 0), .bool true, .bool (decide ((Go.bits .and .i64 a1 15) < (wrap64 ((Go.bits .and .i64 a2 15) + x10_18)))), .bool (decide ((wrap64 ((wrap64 (a1 - a2)) - x10_18)) < 0))] rfl (by (try simp only [List.map_toArray, List.map_cons, List.map_nil]); first | done | rfl | (simp only [List.length_drop, List.length_take]; rfl)) ?_; (with_reducible refine (impl_flags.calls kj20 ((Go.bits .and .i64 (wrap64 ((wrap64 (a1 - a2)) - x10_18)) 255) == 0) true (decide ((Go.bits .and .i64 a1 15) < (wrap64 ((Go.bits .and .i64 a2 15) + x10_18)))) (decide ((wrap64 ((wrap64 (a1 - a2)) - x10_18)) < 0)) t205 _ A32.out).mono ?_); rintro e w' ⟨rfl, ⟨nd, rfl⟩⟩; refine ⟨_, rfl, ?_⟩))
                              go_ret2
                              exact ⟨by first | rfl | (simp; done) | (simp [*]; done) | (simp; decide +kernel) | (simp [wrap64]; done), by repeat (first | exact Drawn0.refl _ | apply Drawn0.step)⟩
                            · rw [if_neg c31] at H
                              have c31b0 : (a0 == 7) = false := beq_eq_false_iff_ne.mpr c31
                              have c31b1 : (a0 != 7) = true := bne_iff_ne.mpr c31
                              replace H := Option.bind_eq_some_iff.mp H
                              obtain ⟨t206, A330, H⟩ := H
                              replace H : (some (Go.bits .and .i64 (wrap64 ((wrap64 (a1 - a2)) - x10_18)) 255, t206)) = some (r1, r2) := H
                              have A33 := Aside0.mk A330
                              clear A330
                              simp only [Option.some.injEq, Prod.mk.injEq] at H
                              obtain ⟨rfl, rfl⟩ := H
                              go_wp2_with (first | ((with_reducible refine gate_callee (f := 66) rfl ?_); refine goesL_ (some 120) rfl rfl Try.func66 (by kernel_rfl) rfl #[.bool ((Go.bits .and .i64 (wrap64 ((wrap64 (a1 - a2)) - x10_18)) 255) == 0), .bool true, .bool (decide ((Go.bits .and .i64 a1 15) < (wrap64 ((Go.bits .and .i64 a2 15) + x10_18)))), .bool (decide ((wrap64 ((wrap64 (a1 - a2)) - x10_18)) < 0))] rfl (by (try simp only [List.map_toArray, List.map_cons, List.map_nil]); first | done | rfl | (simp only [List.length_drop, List.length_take]; rfl)) ?_; (with_reducible refine (impl_flags.calls kj20 ((Go.bits .and .i64 (wrap64 ((wrap64 (a1 - a2)) - x10_18)) 255) == 0) true (decide ((Go.bits .and .i64 a1 15) < (wrap64 ((Go.bits .and .i64 a2 15) + x10_18)))) (decide ((wrap64 ((wrap64 (a1 - a2)) - x10_18)) < 0)) t206 _ A33.out).mono ?_); rintro e w' ⟨rfl, ⟨nd, rfl⟩⟩; refine ⟨_, rfl, ?_⟩))
                              go_ret2
                              exact ⟨by first | rfl | (simp; done) | (simp [*]; done) | (simp; decide +kernel) | (simp [wrap64]; done), by repeat (first | exact Drawn0.refl _ | apply Drawn0.step)⟩

/-! ### laws_FnDaa: function 4 -/
def laws_FnDaa.j0 : Nat → Int → Int → Int → Int → Int → Int → Bool → Option (Bool)
  | 0, _, _, _, _, _, _, _ => none
  | k + 1, x4, x5, x9, x10, x11, x12, x73 => if x73 = true then (if x9 = x11 then (some (x10 == x12)) else (some false)) else ((impl_Alu.f k 0 (wrap64 ((wrap64 ((wrap64 (Int.tdiv (Int.tmod x4 100) 10)) * 16)) + (Int.tmod x4 10))) (wrap64 ((wrap64 ((wrap64 (Int.tdiv (Int.tmod x5 100) 10)) * 16)) + (Int.tmod x5 10))) 0).bind fun bt218 => ((impl_Daa.f k bt218.1 bt218.2).bind fun bt220 => ((impl_Alu.f k 2 (wrap64 ((wrap64 ((wrap64 (Int.tdiv (Int.tmod x4 100) 10)) * 16)) + (Int.tmod x4 10))) (wrap64 ((wrap64 ((wrap64 (Int.tdiv (Int.tmod x5 100) 10)) * 16)) + (Int.tmod x5 10))) 0).bind fun bt222 => ((impl_Daa.f k bt222.1 bt222.2).bind fun bt224 => (if bt220.1 = (wrap64 ((wrap64 ((wrap64 (Int.tdiv (Int.tmod (wrap64 ((Int.tmod x4 100) + (Int.tmod x5 100))) 100) 10)) * 16)) + (Int.tmod (wrap64 ((Int.tmod x4 100) + (Int.tmod x5 100))) 10))) then (if (((Int.tmod (wrap64 (Int.tdiv bt220.2 16)) 2) == 1) == (decide ((wrap64 ((Int.tmod x4 100) + (Int.tmod x5 100))) > 99))) = true then (some (bt224.1 == (wrap64 ((wrap64 ((wrap64 (Int.tdiv (Int.tmod (wrap64 ((wrap64 ((Int.tmod x4 100) - (Int.tmod x5 100))) + 100)) 100) 10)) * 16)) + (Int.tmod (wrap64 ((wrap64 ((Int.tmod x4 100) - (Int.tmod x5 100))) + 100)) 10))))) else (some false)) else (some false))))))
def laws_FnDaa.f (k : Nat) (l0 : List Int) : Option (Bool) := (laws_big.f l0).bind fun t207 => (if t207 = true then (some true) else ((spec_DrawAlu.f k l0).bind fun bt208 => ((spec_DrawDaa.f k l0).bind fun bt212 => ((impl_Daa.f k bt212.1 bt212.2).bind fun bt214 => ((spec_Daa.f k bt212.1 bt212.2).bind fun bt216 => (if bt214.1 = bt216.1 then (if bt214.2 = bt216.2 then (if bt208.2.1 < 0 then (laws_FnDaa.j0 k bt208.2.1 bt208.2.2.1 bt214.1 bt214.2 bt216.1 bt216.2 true) else (if bt208.2.1 > 255 then (laws_FnDaa.j0 k bt208.2.1 bt208.2.2.1 bt214.1 bt214.2 bt216.1 bt216.2 true) else (if bt208.2.2.1 < 0 then (laws_FnDaa.j0 k bt208.2.1 bt208.2.2.1 bt214.1 bt214.2 bt216.1 bt216.2 true) else (laws_FnDaa.j0 k bt208.2.1 bt208.2.2.1 bt214.1 bt214.2 bt216.1 bt216.2 (decide (bt208.2.2.1 > 255)))))) else (laws_FnDaa.j0 k bt208.2.1 bt208.2.2.1 bt214.1 bt214.2 bt216.1 bt216.2 true)) else (laws_FnDaa.j0 k bt208.2.1 bt208.2.2.1 bt214.1 bt214.2 bt216.1 bt216.2 true)))))))
theorem laws_FnDaa.mono_l : ∀ k, (∀ y0 y1 y2 y3 y4 y5 y6, LeO (laws_FnDaa.j0 k y0 y1 y2 y3 y4 y5 y6) (laws_FnDaa.j0 (k + 1) y0 y1 y2 y3 y4 y5 y6))
  | 0 => fun _ _ _ _ _ _ _ r h => by simp [laws_FnDaa.j0] at h
  | k + 1 => by
    have ih0 := laws_FnDaa.mono_l k
    · intro y0 y1 y2 y3 y4 y5 y6
      unfold laws_FnDaa.j0
      repeat' first
      | (with_reducible exact ih0 _ _ _ _ _ _ _)
      | (with_reducible exact impl_Alu.mono _ _ _ _ _)
      | (with_reducible exact impl_Daa.mono _ _ _)
      | (with_reducible exact spec_Daa.mono _ _ _)
      | (with_reducible exact spec_DrawAlu.mono _ _)
      | (with_reducible exact spec_DrawDaa.mono _ _)
      | (with_reducible exact LeO.refl _)
      | (with_reducible exact LeO.none _)
      | (with_reducible refine LeO.ite ?_ ?_)
      | (with_reducible refine LeO.bind ?_ (fun _ => ?_))
      | exact ih0 _ _ _ _ _ _ _
      | exact impl_Alu.mono _ _ _ _ _
      | exact impl_Daa.mono _ _ _
      | exact spec_Daa.mono _ _ _
      | exact spec_DrawAlu.mono _ _
      | exact spec_DrawDaa.mono _ _
      | exact LeO.none _
      | refine LeO.ite ?_ ?_
      | refine LeO.bind ?_ (fun _ => ?_)
theorem laws_FnDaa.mono : ∀ a0 k, LeO (laws_FnDaa.f k a0) (laws_FnDaa.f (k + 1) a0) := by
  intro a0 k
  have ih0 := laws_FnDaa.mono_l k
  unfold laws_FnDaa.f
  repeat' first
      | (with_reducible exact ih0 _ _ _ _ _ _ _)
      | (with_reducible exact impl_Alu.mono _ _ _ _ _)
      | (with_reducible exact impl_Daa.mono _ _ _)
      | (with_reducible exact spec_Daa.mono _ _ _)
      | (with_reducible exact spec_DrawAlu.mono _ _)
      | (with_reducible exact spec_DrawDaa.mono _ _)
      | (with_reducible exact LeO.refl _)
      | (with_reducible exact LeO.none _)
      | (with_reducible refine LeO.ite ?_ ?_)
      | (with_reducible refine LeO.bind ?_ (fun _ => ?_))
      | exact ih0 _ _ _ _ _ _ _
      | exact impl_Alu.mono _ _ _ _ _
      | exact impl_Daa.mono _ _ _
      | exact spec_Daa.mono _ _ _
      | exact spec_DrawAlu.mono _ _
      | exact spec_DrawDaa.mono _ _
      | exact LeO.none _
      | refine LeO.ite ?_ ?_
      | refine LeO.bind ?_ (fun _ => ?_)
set_option maxHeartbeats 8000000 in
set_option maxRecDepth 100000 in
theorem laws_FnDaa.calls (k : Nat) (A0 : Option Addr) (c0 : Nat) (l0 : List Int) (r : Bool) (w : World) (hr0 : Kd.C (Kd.int .u8) w A0 l0.length l0) (hc0 : l0.length ≤ c0) (h : laws_FnDaa.f k l0 = some r) :
    Calls Try.prog 4 #[.slice A0 l0.length c0] w fun e w' => e = .returned (.bool r) ∧ Below w.heap.size w w' := by
  have HR0 := Aside0.mk hr0
  have HC0 := Aside0.mk hc0
  clear hr0 hc0
  have HB := Aside0.mk (Below.refl w.heap.size w)
  have H : ((laws_big.f l0).bind fun t207 => (if t207 = true then (some true) else ((spec_DrawAlu.f k l0).bind fun bt208 => ((spec_DrawDaa.f k l0).bind fun bt212 => ((impl_Daa.f k bt212.1 bt212.2).bind fun bt214 => ((spec_Daa.f k bt212.1 bt212.2).bind fun bt216 => (if bt214.1 = bt216.1 then (if bt214.2 = bt216.2 then (if bt208.2.1 < 0 then (laws_FnDaa.j0 k bt208.2.1 bt208.2.2.1 bt214.1 bt214.2 bt216.1 bt216.2 true) else (if bt208.2.1 > 255 then (laws_FnDaa.j0 k bt208.2.1 bt208.2.2.1 bt214.1 bt214.2 bt216.1 bt216.2 true) else (if bt208.2.2.1 < 0 then (laws_FnDaa.j0 k bt208.2.1 bt208.2.2.1 bt214.1 bt214.2 bt216.1 bt216.2 true) else (laws_FnDaa.j0 k bt208.2.1 bt208.2.2.1 bt214.1 bt214.2 bt216.1 bt216.2 (decide (bt208.2.2.1 > 255)))))) else (laws_FnDaa.j0 k bt208.2.1 bt208.2.2.1 bt214.1 bt214.2 bt216.1 bt216.2 true)) else (laws_FnDaa.j0 k bt208.2.1 bt208.2.2.1 bt214.1 bt214.2 bt216.1 bt216.2 true)))))))) = some r := h
  clear h
  replace H := Option.bind_eq_some_iff.mp H
  obtain ⟨t207, A20, H⟩ := H
  replace H : (if t207 = true then (some true) else ((spec_DrawAlu.f k l0).bind fun bt208 => ((spec_DrawDaa.f k l0).bind fun bt212 => ((impl_Daa.f k bt212.1 bt212.2).bind fun bt214 => ((spec_Daa.f k bt212.1 bt212.2).bind fun bt216 => (if bt214.1 = bt216.1 then (if bt214.2 = bt216.2 then (if bt208.2.1 < 0 then (laws_FnDaa.j0 k bt208.2.1 bt208.2.2.1 bt214.1 bt214.2 bt216.1 bt216.2 true) else (if bt208.2.1 > 255 then (laws_FnDaa.j0 k bt208.2.1 bt208.2.2.1 bt214.1 bt214.2 bt216.1 bt216.2 true) else (if bt208.2.2.1 < 0 then (laws_FnDaa.j0 k bt208.2.1 bt208.2.2.1 bt214.1 bt214.2 bt216.1 bt216.2 true) else (laws_FnDaa.j0 k bt208.2.1 bt208.2.2.1 bt214.1 bt214.2 bt216.1 bt216.2 (decide (bt208.2.2.1 > 255)))))) else (laws_FnDaa.j0 k bt208.2.1 bt208.2.2.1 bt214.1 bt214.2 bt216.1 bt216.2 true)) else (laws_FnDaa.j0 k bt208.2.1 bt208.2.2.1 bt214.1 bt214.2 bt216.1 bt216.2 true))))))) = some r := H
  have A2 := Aside0.mk A20
  clear A20
  by_cases c3 : t207 = true
  · subst c3
    have H1 : (some true) = some r := by rw [if_pos rfl] at H; exact H
    clear H
    have H := H1
    clear H1
    obtain rfl := Option.some.inj H
    go_enter Try.func4, Try.ntmps4
    go_wp2_with (first | ((with_reducible refine gate_callee (f := 16) rfl ?_); refine goesL_ (some 25) rfl rfl Try.func16 (by kernel_rfl) rfl #[.slice A0 l0.length c0] rfl (by (try simp only [List.map_toArray, List.map_cons, List.map_nil]); first | done | rfl | (simp only [List.length_drop, List.length_take]; rfl)) ?_; (with_reducible refine (laws_big.calls _ _ l0 true _ ?side1 ?side2 A2.out).mono ?_); (case side1 => repeat (first | exact HR0.out | (with_reducible refine Kd.C_alloc ?_ _) | (with_reducible refine Kd.C_drewN ?_ _) | (with_reducible refine Kd.C_drew ?_))); (case side2 => exact HC0.out); rintro e w' ⟨rfl, ⟨nd, rfl⟩⟩; refine ⟨_, rfl, ?_⟩))
    go_ret
    exact ⟨by first | rfl | (simp [errW_none, errW_some] <;> rfl) | (simp [*, errW_none, errW_some] <;> rfl), by repeat (first | (with_reducible first | exact HB.out | apply below_alloc | apply pw_below_drewN | apply below_drew1) | exact HB.out)⟩
  · replace c3 := Bool.eq_false_iff.mpr c3
    subst c3
    have H1 : ((spec_DrawAlu.f k l0).bind fun bt208 => ((spec_DrawDaa.f k l0).bind fun bt212 => ((impl_Daa.f k bt212.1 bt212.2).bind fun bt214 => ((spec_Daa.f k bt212.1 bt212.2).bind fun bt216 => (if bt214.1 = bt216.1 then (if bt214.2 = bt216.2 then (if bt208.2.1 < 0 then (laws_FnDaa.j0 k bt208.2.1 bt208.2.2.1 bt214.1 bt214.2 bt216.1 bt216.2 true) else (if bt208.2.1 > 255 then (laws_FnDaa.j0 k bt208.2.1 bt208.2.2.1 bt214.1 bt214.2 bt216.1 bt216.2 true) else (if bt208.2.2.1 < 0 then (laws_FnDaa.j0 k bt208.2.1 bt208.2.2.1 bt214.1 bt214.2 bt216.1 bt216.2 true) else (laws_FnDaa.j0 k bt208.2.1 bt208.2.2.1 bt214.1 bt214.2 bt216.1 bt216.2 (decide (bt208.2.2.1 > 255)))))) else (laws_FnDaa.j0 k bt208.2.1 bt208.2.2.1 bt214.1 bt214.2 bt216.1 bt216.2 true)) else (laws_FnDaa.j0 k bt208.2.1 bt208.2.2.1 bt214.1 bt214.2 bt216.1 bt216.2 true)))))) = some r := by rw [if_neg (show ¬ (false = true) by decide)] at H; exact H
    clear H
    have H := H1
    clear H1
    replace H := Option.bind_eq_some_iff.mp H
    obtain ⟨⟨t208, t209, t210, t211⟩, A40, H⟩ := H
    replace H : ((spec_DrawDaa.f k l0).bind fun bt212 => ((impl_Daa.f k bt212.1 bt212.2).bind fun bt214 => ((spec_Daa.f k bt212.1 bt212.2).bind fun bt216 => (if bt214.1 = bt216.1 then (if bt214.2 = bt216.2 then (if t209 < 0 then (laws_FnDaa.j0 k t209 t210 bt214.1 bt214.2 bt216.1 bt216.2 true) else (if t209 > 255 then (laws_FnDaa.j0 k t209 t210 bt214.1 bt214.2 bt216.1 bt216.2 true) else (if t210 < 0 then (laws_FnDaa.j0 k t209 t210 bt214.1 bt214.2 bt216.1 bt216.2 true) else (laws_FnDaa.j0 k t209 t210 bt214.1 bt214.2 bt216.1 bt216.2 (decide (t210 > 255)))))) else (laws_FnDaa.j0 k t209 t210 bt214.1 bt214.2 bt216.1 bt216.2 true)) else (laws_FnDaa.j0 k t209 t210 bt214.1 bt214.2 bt216.1 bt216.2 true))))) = some r := H
    have A4 := Aside0.mk A40
    clear A40
    replace H := Option.bind_eq_some_iff.mp H
    obtain ⟨⟨t212, t213⟩, A50, H⟩ := H
    replace H : ((impl_Daa.f k t212 t213).bind fun bt214 => ((spec_Daa.f k t212 t213).bind fun bt216 => (if bt214.1 = bt216.1 then (if bt214.2 = bt216.2 then (if t209 < 0 then (laws_FnDaa.j0 k t209 t210 bt214.1 bt214.2 bt216.1 bt216.2 true) else (if t209 > 255 then (laws_FnDaa.j0 k t209 t210 bt214.1 bt214.2 bt216.1 bt216.2 true) else (if t210 < 0 then (laws_FnDaa.j0 k t209 t210 bt214.1 bt214.2 bt216.1 bt216.2 true) else (laws_FnDaa.j0 k t209 t210 bt214.1 bt214.2 bt216.1 bt216.2 (decide (t210 > 255)))))) else (laws_FnDaa.j0 k t209 t210 bt214.1 bt214.2 bt216.1 bt216.2 true)) else (laws_FnDaa.j0 k t209 t210 bt214.1 bt214.2 bt216.1 bt216.2 true)))) = some r := H
    have A5 := Aside0.mk A50
    clear A50
    replace H := Option.bind_eq_some_iff.mp H
    obtain ⟨⟨t214, t215⟩, A60, H⟩ := H
    replace H : ((spec_Daa.f k t212 t213).bind fun bt216 => (if t214 = bt216.1 then (if t215 = bt216.2 then (if t209 < 0 then (laws_FnDaa.j0 k t209 t210 t214 t215 bt216.1 bt216.2 true) else (if t209 > 255 then (laws_FnDaa.j0 k t209 t210 t214 t215 bt216.1 bt216.2 true) else (if t210 < 0 then (laws_FnDaa.j0 k t209 t210 t214 t215 bt216.1 bt216.2 true) else (laws_FnDaa.j0 k t209 t210 t214 t215 bt216.1 bt216.2 (decide (t210 > 255)))))) else (laws_FnDaa.j0 k t209 t210 t214 t215 bt216.1 bt216.2 true)) else (laws_FnDaa.j0 k t209 t210 t214 t215 bt216.1 bt216.2 true))) = some r := H
    have A6 := Aside0.mk A60
    clear A60
    replace H := Option.bind_eq_some_iff.mp H
    obtain ⟨⟨t216, t217⟩, A70, H⟩ := H
    replace H : (if t214 = t216 then (if t215 = t217 then (if t209 < 0 then (laws_FnDaa.j0 k t209 t210 t214 t215 t216 t217 true) else (if t209 > 255 then (laws_FnDaa.j0 k t209 t210 t214 t215 t216 t217 true) else (if t210 < 0 then (laws_FnDaa.j0 k t209 t210 t214 t215 t216 t217 true) else (laws_FnDaa.j0 k t209 t210 t214 t215 t216 t217 (decide (t210 > 255)))))) else (laws_FnDaa.j0 k t209 t210 t214 t215 t216 t217 true)) else (laws_FnDaa.j0 k t209 t210 t214 t215 t216 t217 true)) = some r := H
    have A7 := Aside0.mk A70
    clear A70
    have HC8 := Aside0.mk H
    clear H
    go_enter Try.func4, Try.ntmps4
    go_upto_region 7 with (first | ((with_reducible refine gate_callee (f := 16) rfl ?_); refine goesL_ (some 25) rfl rfl Try.func16 (by kernel_rfl) rfl #[.slice A0 l0.length c0] rfl (by (try simp only [List.map_toArray, List.map_cons, List.map_nil]); first | done | rfl | (simp only [List.length_drop, List.length_take]; rfl)) ?_; (with_reducible refine (laws_big.calls _ _ l0 false _ ?side1 ?side2 A2.out).mono ?_); (case side1 => repeat (first | exact HR0.out | (with_reducible refine Kd.C_alloc ?_ _) | (with_reducible refine Kd.C_drewN ?_ _) | (with_reducible refine Kd.C_drew ?_))); (case side2 => exact HC0.out); rintro e w' ⟨rfl, ⟨nd, rfl⟩⟩; refine ⟨_, rfl, ?_⟩) | ((with_reducible refine gate_callee (f := 23) rfl ?_); refine goesL_ (some 28) rfl rfl Try.func23 (by kernel_rfl) rfl #[.slice A0 l0.length c0] rfl (by (try simp only [List.map_toArray, List.map_cons, List.map_nil]); first | done | rfl | (simp only [List.length_drop, List.length_take]; rfl)) ?_; (with_reducible refine (spec_DrawAlu.calls k _ _ l0 t208 t209 t210 t211 _ ?side1 ?side2 A4.out).mono ?_); (case side1 => repeat (first | exact HR0.out | (with_reducible refine Kd.C_alloc ?_ _) | (with_reducible refine Kd.C_drewN ?_ _) | (with_reducible refine Kd.C_drew ?_))); (case side2 => exact HC0.out); rintro e w9 ⟨rfl, hb⟩; refine ⟨_, rfl, ?_⟩; have n0_ := Aside0.mk (below_step (by repeat (first | (with_reducible first | exact HB.out | apply below_alloc | apply pw_below_drewN | apply below_drew1) | exact HB.out)) hb); clear HB; have HB := n0_; clear n0_; (try clear hb); (try clear hb2); (try clear hk); (try clear hi)) | ((with_reducible refine gate_callee (f := 24) rfl ?_); refine goesL_ (some 35) rfl rfl Try.func24 (by kernel_rfl) rfl #[.slice A0 l0.length c0] rfl (by (try simp only [List.map_toArray, List.map_cons, List.map_nil]); first | done | rfl | (simp only [List.length_drop, List.length_take]; rfl)) ?_; (with_reducible refine (spec_DrawDaa.calls k _ _ l0 t212 t213 _ ?side1 ?side2 A5.out).mono ?_); (case side1 => repeat (first | exact (Kd.C_below HR0.out HB.out) | (with_reducible refine Kd.C_alloc ?_ _) | (with_reducible refine Kd.C_drewN ?_ _) | (with_reducible refine Kd.C_drew ?_))); (case side2 => exact HC0.out); rintro e w10 ⟨rfl, hb⟩; refine ⟨_, rfl, ?_⟩; have n0_ := Aside0.mk (below_step (by repeat (first | (with_reducible first | exact HB.out | apply below_alloc | apply pw_below_drewN | apply below_drew1) | exact HB.out)) hb); clear HB; have HB := n0_; clear n0_; (try clear hb); (try clear hb2); (try clear hk); (try clear hi)) | ((with_reducible refine gate_callee (f := 25) rfl ?_); refine goesL_ (some 41) rfl rfl Try.func25 (by kernel_rfl) rfl #[.int .i64 t212, .int .i64 t213] rfl (by (try simp only [List.map_toArray, List.map_cons, List.map_nil]); first | done | rfl | (simp only [List.length_drop, List.length_take]; rfl)) ?_; (with_reducible refine (impl_Daa.calls k t212 t213 t214 t215 _ A6.out).mono ?_); rintro e w' ⟨rfl, ⟨nd, rfl⟩⟩; refine ⟨_, rfl, ?_⟩) | ((with_reducible refine gate_callee (f := 26) rfl ?_); refine goesL_ (some 47) rfl rfl Try.func26 (by kernel_rfl) rfl #[.int .i64 t212, .int .i64 t213] rfl (by (try simp only [List.map_toArray, List.map_cons, List.map_nil]); first | done | rfl | (simp only [List.length_drop, List.length_take]; rfl)) ?_; (with_reducible refine (spec_Daa.calls k t212 t213 t216 t217 _ A7.out).mono ?_); rintro e w' ⟨rfl, ⟨nd, rfl⟩⟩; refine ⟨_, rfl, ?_⟩))
    (try simp only [Act.put, List.setIfInBounds_toArray, List.set_cons_zero, List.set_cons_succ])
    go_cut [73] (fun v73 wc => ∃ (kq : Nat) (x73_7 : Bool), v73 = .bool x73_7 ∧ Aside0 (laws_FnDaa.j0 kq t209 t210 t214 t215 t216 t217 x73_7 = some r) ∧ Aside0 (kq ≤ k) ∧ Aside0 (Below w.heap.size w wc))
    case first =>
      have H := HC8.out
      clear HC8
      by_cases c11 : t214 = t216
      · rw [if_pos c11] at H
        have c11b0 : (t214 == t216) = true := beq_iff_eq.mpr c11
        have c11b1 : (t214 != t216) = false := bne_eq_false_iff_eq.mpr c11
        clear c11
        (first | rw [c11b0] | (simp only [i64_w, i32_w]; rw [c11b0]) | skip)
        by_cases c12 : t215 = t217
        · rw [if_pos c12] at H
          have c12b0 : (t215 == t217) = true := beq_iff_eq.mpr c12
          have c12b1 : (t215 != t217) = false := bne_eq_false_iff_eq.mpr c12
          clear c12
          by_cases c13 : t209 < 0
          · rw [if_pos c13] at H
            have c13b0 : decide (t209 < 0) = true := decide_eq_true c13
            clear c13
            have H' := Aside0.mk H
            clear H
            go_wp2
            go_meet
            case rel => exact ⟨_, (true), (by first | rfl | (simp; done) | (simp [*]; done) | (simp; decide +kernel) | (simp [wrap64]; done)), H', ⟨by first | omega | exact Nat.le_refl _⟩, ⟨by repeat (first | (with_reducible first | exact HB.out | apply below_alloc | apply pw_below_drewN | apply below_drew1) | exact HB.out)⟩⟩
          · rw [if_neg c13] at H
            have c13b0 : decide (t209 < 0) = false := decide_eq_false c13
            clear c13
            by_cases c14 : t209 > 255
            · rw [if_pos c14] at H
              have c14b0 : decide (255 < t209) = true := decide_eq_true c14
              clear c14
              have H' := Aside0.mk H
              clear H
              go_wp2
              go_meet
              case rel => exact ⟨_, (true), (by first | rfl | (simp; done) | (simp [*]; done) | (simp; decide +kernel) | (simp [wrap64]; done)), H', ⟨by first | omega | exact Nat.le_refl _⟩, ⟨by repeat (first | (with_reducible first | exact HB.out | apply below_alloc | apply pw_below_drewN | apply below_drew1) | exact HB.out)⟩⟩
            · rw [if_neg c14] at H
              have c14b0 : decide (255 < t209) = false := decide_eq_false c14
              clear c14
              by_cases c15 : t210 < 0
              · rw [if_pos c15] at H
                have c15b0 : decide (t210 < 0) = true := decide_eq_true c15
                clear c15
                have H' := Aside0.mk H
                clear H
                go_wp2
                go_meet
                case rel => exact ⟨_, (true), (by first | rfl | (simp; done) | (simp [*]; done) | (simp; decide +kernel) | (simp [wrap64]; done)), H', ⟨by first | omega | exact Nat.le_refl _⟩, ⟨by repeat (first | (with_reducible first | exact HB.out | apply below_alloc | apply pw_below_drewN | apply below_drew1) | exact HB.out)⟩⟩
              · rw [if_neg c15] at H
                have c15b0 : decide (t210 < 0) = false := decide_eq_false c15
                clear c15
                have H' := Aside0.mk H
                clear H
                go_wp2
                go_meet
                case rel => exact ⟨_, (decide (t210 > 255)), (by first | rfl | (simp; done) | (simp [*]; done) | (simp; decide +kernel) | (simp [wrap64]; done)), H', ⟨by first | omega | exact Nat.le_refl _⟩, ⟨by repeat (first | (with_reducible first | exact HB.out | apply below_alloc | apply pw_below_drewN | apply below_drew1) | exact HB.out)⟩⟩
        · rw [if_neg c12] at H
          have c12b0 : (t215 == t217) = false := beq_eq_false_iff_ne.mpr c12
          have c12b1 : (t215 != t217) = true := bne_iff_ne.mpr c12
          have H' := Aside0.mk H
          clear H
          go_wp2
          go_meet
          case rel => exact ⟨_, (true), (by first | rfl | (simp; done) | (simp [*]; done) | (simp; decide +kernel) | (simp [wrap64]; done)), H', ⟨by first | omega | exact Nat.le_refl _⟩, ⟨by repeat (first | (with_reducible first | exact HB.out | apply below_alloc | apply pw_below_drewN | apply below_drew1) | exact HB.out)⟩⟩
      · rw [if_neg c11] at H
        have c11b0 : (t214 == t216) = false := beq_eq_false_iff_ne.mpr c11
        have c11b1 : (t214 != t216) = true := bne_iff_ne.mpr c11
        (first | rw [c11b0] | (simp only [i64_w, i32_w]; rw [c11b0]) | skip)
        have H' := Aside0.mk H
        clear H
        go_wp2
        go_meet
        case rel => exact ⟨_, (true), (by first | rfl | (simp; done) | (simp [*]; done) | (simp; decide +kernel) | (simp [wrap64]; done)), H', ⟨by first | omega | exact Nat.le_refl _⟩, ⟨by repeat (first | (with_reducible first | exact HB.out | apply below_alloc | apply pw_below_drewN | apply below_drew1) | exact HB.out)⟩⟩
    case rest =>
      clear HC8
      try clear c1
      try clear c2
      try clear p2
      try clear c3
      try clear c4
      try clear p6
      try clear c11
      try clear c11b0
      try clear c11b1
      try clear c12
      try clear c12b0
      try clear c12b1
      try clear c13
      try clear c13b0
      try clear c14
      try clear c14b0
      try clear c15
      try clear c15b0
      obtain ⟨kq, x73_7, rfl, HA, HJ7, HB⟩ := hcut
      cases kq with
      | zero => exact absurd HA.out (by simp [laws_FnDaa.j0])
      | succ kj7 =>
        have H := HA.out
        clear HA
        simp only [laws_FnDaa.j0] at H
        by_cases c16 : x73_7 = true
        · subst c16
          have H1 : (if t214 = t216 then (some (t215 == t217)) else (some false)) = some r := by rw [if_pos rfl] at H; exact H
          clear H
          have H := H1
          clear H1
          by_cases c17 : t214 = t216
          · rw [if_pos c17] at H
            have c17b0 : (t214 == t216) = true := beq_iff_eq.mpr c17
            have c17b1 : (t214 != t216) = false := bne_eq_false_iff_eq.mpr c17
            clear c17
            obtain rfl := Option.some.inj H
            go_wp2
            go_ret
            exact ⟨by first | rfl | (simp [errW_none, errW_some] <;> rfl) | (simp [*, errW_none, errW_some] <;> rfl), by repeat (first | (with_reducible first | exact HB.out | apply below_alloc | apply pw_below_drewN | apply below_drew1) | exact HB.out)⟩
          · rw [if_neg c17] at H
            have c17b0 : (t214 == t216) = false := beq_eq_false_iff_ne.mpr c17
            have c17b1 : (t214 != t216) = true := bne_iff_ne.mpr c17
            obtain rfl := Option.some.inj H
            go_wp2
            go_ret
            exact ⟨by first | rfl | (simp [errW_none, errW_some] <;> rfl) | (simp [*, errW_none, errW_some] <;> rfl), by repeat (first | (with_reducible first | exact HB.out | apply below_alloc | apply pw_below_drewN | apply below_drew1) | exact HB.out)⟩
        · replace c16 := Bool.eq_false_iff.mpr c16
          subst c16
          have H1 : ((impl_Alu.f kj7 0 (wrap64 ((wrap64 ((wrap64 (Int.tdiv (Int.tmod t209 100) 10)) * 16)) + (Int.tmod t209 10))) (wrap64 ((wrap64 ((wrap64 (Int.tdiv (Int.tmod t210 100) 10)) * 16)) + (Int.tmod t210 10))) 0).bind fun bt218 => ((impl_Daa.f kj7 bt218.1 bt218.2).bind fun bt220 => ((impl_Alu.f kj7 2 (wrap64 ((wrap64 ((wrap64 (Int.tdiv (Int.tmod t209 100) 10)) * 16)) + (Int.tmod t209 10))) (wrap64 ((wrap64 ((wrap64 (Int.tdiv (Int.tmod t210 100) 10)) * 16)) + (Int.tmod t210 10))) 0).bind fun bt222 => ((impl_Daa.f kj7 bt222.1 bt222.2).bind fun bt224 => (if bt220.1 = (wrap64 ((wrap64 ((wrap64 (Int.tdiv (Int.tmod (wrap64 ((Int.tmod t209 100) + (Int.tmod t210 100))) 100) 10)) * 16)) + (Int.tmod (wrap64 ((Int.tmod t209 100) + (Int.tmod t210 100))) 10))) then (if (((Int.tmod (wrap64 (Int.tdiv bt220.2 16)) 2) == 1) == (decide ((wrap64 ((Int.tmod t209 100) + (Int.tmod t210 100))) > 99))) = true then (some (bt224.1 == (wrap64 ((wrap64 ((wrap64 (Int.tdiv (Int.tmod (wrap64 ((wrap64 ((Int.tmod t209 100) - (Int.tmod t210 100))) + 100)) 100) 10)) * 16)) + (Int.tmod (wrap64 ((wrap64 ((Int.tmod t209 100) - (Int.tmod t210 100))) + 100)) 10))))) else (some false)) else (some false)))))) = some r := by rw [if_neg (show ¬ (false = true) by decide)] at H; exact H
          clear H
          have H := H1
          clear H1
          replace H := Option.bind_eq_some_iff.mp H
          obtain ⟨⟨t218, t219⟩, A180, H⟩ := H
          replace H : ((impl_Daa.f kj7 t218 t219).bind fun bt220 => ((impl_Alu.f kj7 2 (wrap64 ((wrap64 ((wrap64 (Int.tdiv (Int.tmod t209 100) 10)) * 16)) + (Int.tmod t209 10))) (wrap64 ((wrap64 ((wrap64 (Int.tdiv (Int.tmod t210 100) 10)) * 16)) + (Int.tmod t210 10))) 0).bind fun bt222 => ((impl_Daa.f kj7 bt222.1 bt222.2).bind fun bt224 => (if bt220.1 = (wrap64 ((wrap64 ((wrap64 (Int.tdiv (Int.tmod (wrap64 ((Int.tmod t209 100) + (Int.tmod t210 100))) 100) 10)) * 16)) + (Int.tmod (wrap64 ((Int.tmod t209 100) + (Int.tmod t210 100))) 10))) then (if (((Int.tmod (wrap64 (Int.tdiv bt220.2 16)) 2) == 1) == (decide ((wrap64 ((Int.tmod t209 100) + (Int.tmod t210 100))) > 99))) = true then (some (bt224.1 == (wrap64 ((wrap64 ((wrap64 (Int.tdiv (Int.tmod (wrap64 ((wrap64 ((Int.tmod t209 100) - (Int.tmod t210 100))) + 100)) 100) 10)) * 16)) + (Int.tmod (wrap64 ((wrap64 ((Int.tmod t209 100) - (Int.tmod t210 100))) + 100)) 10))))) else (some false)) else (some false))))) = some r := H
          have A18 := Aside0.mk A180
          clear A180
          replace H := Option.bind_eq_some_iff.mp H
          obtain ⟨⟨t220, t221⟩, A190, H⟩ := H
          replace H : ((impl_Alu.f kj7 2 (wrap64 ((wrap64 ((wrap64 (Int.tdiv (Int.tmod t209 100) 10)) * 16)) + (Int.tmod t209 10))) (wrap64 ((wrap64 ((wrap64 (Int.tdiv (Int.tmod t210 100) 10)) * 16)) + (Int.tmod t210 10))) 0).bind fun bt222 => ((impl_Daa.f kj7 bt222.1 bt222.2).bind fun bt224 => (if t220 = (wrap64 ((wrap64 ((wrap64 (Int.tdiv (Int.tmod (wrap64 ((Int.tmod t209 100) + (Int.tmod t210 100))) 100) 10)) * 16)) + (Int.tmod (wrap64 ((Int.tmod t209 100) + (Int.tmod t210 100))) 10))) then (if (((Int.tmod (wrap64 (Int.tdiv t221 16)) 2) == 1) == (decide ((wrap64 ((Int.tmod t209 100) + (Int.tmod t210 100))) > 99))) = true then (some (bt224.1 == (wrap64 ((wrap64 ((wrap64 (Int.tdiv (Int.tmod (wrap64 ((wrap64 ((Int.tmod t209 100) - (Int.tmod t210 100))) + 100)) 100) 10)) * 16)) + (Int.tmod (wrap64 ((wrap64 ((Int.tmod t209 100) - (Int.tmod t210 100))) + 100)) 10))))) else (some false)) else (some false)))) = some r := H
          have A19 := Aside0.mk A190
          clear A190
          replace H := Option.bind_eq_some_iff.mp H
          obtain ⟨⟨t222, t223⟩, A200, H⟩ := H
          replace H : ((impl_Daa.f kj7 t222 t223).bind fun bt224 => (if t220 = (wrap64 ((wrap64 ((wrap64 (Int.tdiv (Int.tmod (wrap64 ((Int.tmod t209 100) + (Int.tmod t210 100))) 100) 10)) * 16)) + (Int.tmod (wrap64 ((Int.tmod t209 100) + (Int.tmod t210 100))) 10))) then (if (((Int.tmod (wrap64 (Int.tdiv t221 16)) 2) == 1) == (decide ((wrap64 ((Int.tmod t209 100) + (Int.tmod t210 100))) > 99))) = true then (some (bt224.1 == (wrap64 ((wrap64 ((wrap64 (Int.tdiv (Int.tmod (wrap64 ((wrap64 ((Int.tmod t209 100) - (Int.tmod t210 100))) + 100)) 100) 10)) * 16)) + (Int.tmod (wrap64 ((wrap64 ((Int.tmod t209 100) - (Int.tmod t210 100))) + 100)) 10))))) else (some false)) else (some false))) = some r := H
          have A20 := Aside0.mk A200
          clear A200
          replace H := Option.bind_eq_some_iff.mp H
          obtain ⟨⟨t224, t225⟩, A210, H⟩ := H
          replace H : (if t220 = (wrap64 ((wrap64 ((wrap64 (Int.tdiv (Int.tmod (wrap64 ((Int.tmod t209 100) + (Int.tmod t210 100))) 100) 10)) * 16)) + (Int.tmod (wrap64 ((Int.tmod t209 100) + (Int.tmod t210 100))) 10))) then (if (((Int.tmod (wrap64 (Int.tdiv t221 16)) 2) == 1) == (decide ((wrap64 ((Int.tmod t209 100) + (Int.tmod t210 100))) > 99))) = true then (some (t224 == (wrap64 ((wrap64 ((wrap64 (Int.tdiv (Int.tmod (wrap64 ((wrap64 ((Int.tmod t209 100) - (Int.tmod t210 100))) + 100)) 100) 10)) * 16)) + (Int.tmod (wrap64 ((wrap64 ((Int.tmod t209 100) - (Int.tmod t210 100))) + 100)) 10))))) else (some false)) else (some false)) = some r := H
          have A21 := Aside0.mk A210
          clear A210
          by_cases c22 : t220 = (wrap64 ((wrap64 ((wrap64 (Int.tdiv (Int.tmod (wrap64 ((Int.tmod t209 100) + (Int.tmod t210 100))) 100) 10)) * 16)) + (Int.tmod (wrap64 ((Int.tmod t209 100) + (Int.tmod t210 100))) 10)))
          · rw [if_pos c22] at H
            have c22b0 : (t220 == (wrap64 ((wrap64 ((wrap64 (Int.tdiv (Int.tmod (wrap64 ((Int.tmod t209 100) + (Int.tmod t210 100))) 100) 10)) * 16)) + (Int.tmod (wrap64 ((Int.tmod t209 100) + (Int.tmod t210 100))) 10)))) = true := beq_iff_eq.mpr c22
            have c22b1 : (t220 != (wrap64 ((wrap64 ((wrap64 (Int.tdiv (Int.tmod (wrap64 ((Int.tmod t209 100) + (Int.tmod t210 100))) 100) 10)) * 16)) + (Int.tmod (wrap64 ((Int.tmod t209 100) + (Int.tmod t210 100))) 10)))) = false := bne_eq_false_iff_eq.mpr c22
            clear c22
            by_cases c23 : (((Int.tmod (wrap64 (Int.tdiv t221 16)) 2) == 1) == (decide ((wrap64 ((Int.tmod t209 100) + (Int.tmod t210 100))) > 99))) = true
            · rw [if_pos c23] at H
              have c23b0 : (((Int.tmod (wrap64 (Int.tdiv t221 16)) 2) == 1) == (decide ((wrap64 ((Int.tmod t209 100) + (Int.tmod t210 100))) > 99))) = true := c23
              (try (have c23b1 : decide (((Int.tmod (wrap64 (Int.tdiv t221 16)) 2) == 1) = (decide ((wrap64 ((Int.tmod t209 100) + (Int.tmod t210 100))) > 99))) = true := by simpa using c23))
              (try (have c23b2 : (((Int.tmod (wrap64 (Int.tdiv t221 16)) 2) == 1) == (decide ((wrap64 ((Int.tmod t209 100) + (Int.tmod t210 100))) > 99))) = true := by simpa using c23))
              clear c23
              obtain rfl := Option.some.inj H
              go_wp2_with (first | ((with_reducible refine gate_callee (f := 27) rfl ?_); refine goesL_ (some 99) rfl rfl Try.func27 (by kernel_rfl) rfl #[.int .i64 0, .int .i64 (wrap64 ((wrap64 ((wrap64 (Int.tdiv (Int.tmod t209 100) 10)) * 16)) + (Int.tmod t209 10))), .int .i64 (wrap64 ((wrap64 ((wrap64 (Int.tdiv (Int.tmod t210 100) 10)) * 16)) + (Int.tmod t210 10))), .int .i64 0] rfl (by (try simp only [List.map_toArray, List.map_cons, List.map_nil]); first | done | rfl | (simp only [List.length_drop, List.length_take]; rfl)) ?_; (with_reducible refine (impl_Alu.calls kj7 0 (wrap64 ((wrap64 ((wrap64 (Int.tdiv (Int.tmod t209 100) 10)) * 16)) + (Int.tmod t209 10))) (wrap64 ((wrap64 ((wrap64 (Int.tdiv (Int.tmod t210 100) 10)) * 16)) + (Int.tmod t210 10))) 0 t218 t219 _ A18.out).mono ?_); rintro e w' ⟨rfl, ⟨nd, rfl⟩⟩; refine ⟨_, rfl, ?_⟩) | ((with_reducible refine gate_callee (f := 25) rfl ?_); refine goesL_ (some 105) rfl rfl Try.func25 (by kernel_rfl) rfl #[.int .i64 t218, .int .i64 t219] rfl (by (try simp only [List.map_toArray, List.map_cons, List.map_nil]); first | done | rfl | (simp only [List.length_drop, List.length_take]; rfl)) ?_; (with_reducible refine (impl_Daa.calls kj7 t218 t219 t220 t221 _ A19.out).mono ?_); rintro e w' ⟨rfl, ⟨nd, rfl⟩⟩; refine ⟨_, rfl, ?_⟩) | ((with_reducible refine gate_callee (f := 27) rfl ?_); refine goesL_ (some 121) rfl rfl Try.func27 (by kernel_rfl) rfl #[.int .i64 2, .int .i64 (wrap64 ((wrap64 ((wrap64 (Int.tdiv (Int.tmod t209 100) 10)) * 16)) + (Int.tmod t209 10))), .int .i64 (wrap64 ((wrap64 ((wrap64 (Int.tdiv (Int.tmod t210 100) 10)) * 16)) + (Int.tmod t210 10))), .int .i64 0] rfl (by (try simp only [List.map_toArray, List.map_cons, List.map_nil]); first | done | rfl | (simp only [List.length_drop, List.length_take]; rfl)) ?_; (with_reducible refine (impl_Alu.calls kj7 2 (wrap64 ((wrap64 ((wrap64 (Int.tdiv (Int.tmod t209 100) 10)) * 16)) + (Int.tmod t209 10))) (wrap64 ((wrap64 ((wrap64 (Int.tdiv (Int.tmod t210 100) 10)) * 16)) + (Int.tmod t210 10))) 0 t222 t223 _ A20.out).mono ?_); rintro e w' ⟨rfl, ⟨nd, rfl⟩⟩; refine ⟨_, rfl, ?_⟩) | ((with_reducible refine gate_callee (f := 25) rfl ?_); refine goesL_ (some 127) rfl rfl Try.func25 (by kernel_rfl) rfl #[.int .i64 t222, .int .i64 t223] rfl (by (try simp only [List.map_toArray, List.map_cons, List.map_nil]); first | done | rfl | (simp only [List.length_drop, List.length_take]; rfl)) ?_; (with_reducible refine (impl_Daa.calls kj7 t222 t223 t224 t225 _ A21.out).mono ?_); rintro e w' ⟨rfl, ⟨nd, rfl⟩⟩; refine ⟨_, rfl, ?_⟩))
              go_ret
              exact ⟨by first | rfl | (simp [errW_none, errW_some] <;> rfl) | (simp [*, errW_none, errW_some] <;> rfl), by repeat (first | (with_reducible first | exact HB.out | apply below_alloc | apply pw_below_drewN | apply below_drew1) | exact HB.out)⟩
            · rw [if_neg c23] at H
              have c23b0 : (((Int.tmod (wrap64 (Int.tdiv t221 16)) 2) == 1) == (decide ((wrap64 ((Int.tmod t209 100) + (Int.tmod t210 100))) > 99))) = false := by simpa using c23
              (try (have c23b1 : decide (((Int.tmod (wrap64 (Int.tdiv t221 16)) 2) == 1) = (decide ((wrap64 ((Int.tmod t209 100) + (Int.tmod t210 100))) > 99))) = false := by simpa using c23))
              (try (have c23b2 : (((Int.tmod (wrap64 (Int.tdiv t221 16)) 2) == 1) == (decide ((wrap64 ((Int.tmod t209 100) + (Int.tmod t210 100))) > 99))) = false := by simpa using c23))
              (try (have c23b3 : ¬ (((Int.tmod (wrap64 (Int.tdiv t221 16)) 2) == 1) = (decide ((wrap64 ((Int.tmod t209 100) + (Int.tmod t210 100))) > 99))) := by simpa using c23))
              clear c23
              obtain rfl := Option.some.inj H
              go_wp2_with (first | ((with_reducible refine gate_callee (f := 27) rfl ?_); refine goesL_ (some 99) rfl rfl Try.func27 (by kernel_rfl) rfl #[.int .i64 0, .int .i64 (wrap64 ((wrap64 ((wrap64 (Int.tdiv (Int.tmod t209 100) 10)) * 16)) + (Int.tmod t209 10))), .int .i64 (wrap64 ((wrap64 ((wrap64 (Int.tdiv (Int.tmod t210 100) 10)) * 16)) + (Int.tmod t210 10))), .int .i64 0] rfl (by (try simp only [List.map_toArray, List.map_cons, List.map_nil]); first | done | rfl | (simp only [List.length_drop, List.length_take]; rfl)) ?_; (with_reducible refine (impl_Alu.calls kj7 0 (wrap64 ((wrap64 ((wrap64 (Int.tdiv (Int.tmod t209 100) 10)) * 16)) + (Int.tmod t209 10))) (wrap64 ((wrap64 ((wrap64 (Int.tdiv (Int.tmod t210 100) 10)) * 16)) + (Int.tmod t210 10))) 0 t218 t219 _ A18.out).mono ?_); rintro e w' ⟨rfl, ⟨nd, rfl⟩⟩; refine ⟨_, rfl, ?_⟩) | ((with_reducible refine gate_callee (f := 25) rfl ?_); refine goesL_ (some 105) rfl rfl Try.func25 (by kernel_rfl) rfl #[.int .i64 t218, .int .i64 t219] rfl (by (try simp only [List.map_toArray, List.map_cons, List.map_nil]); first | done | rfl | (simp only [List.length_drop, List.length_take]; rfl)) ?_; (with_reducible refine (impl_Daa.calls kj7 t218 t219 t220 t221 _ A19.out).mono ?_); rintro e w' ⟨rfl, ⟨nd, rfl⟩⟩; refine ⟨_, rfl, ?_⟩) | ((with_reducible refine gate_callee (f := 27) rfl ?_); refine goesL_ (some 121) rfl rfl Try.func27 (by kernel_rfl) rfl #[.int .i64 2, .int .i64 (wrap64 ((wrap64 ((wrap64 (Int.tdiv (Int.tmod t209 100) 10)) * 16)) + (Int.tmod t209 10))), .int .i64 (wrap64 ((wrap64 ((wrap64 (Int.tdiv (Int.tmod t210 100) 10)) * 16)) + (Int.tmod t210 10))), .int .i64 0] rfl (by (try simp only [List.map_toArray, List.map_cons, List.map_nil]); first | done | rfl | (simp only [List.length_drop, List.length_take]; rfl)) ?_; (with_reducible refine (impl_Alu.calls kj7 2 (wrap64 ((wrap64 ((wrap64 (Int.tdiv (Int.tmod t209 100) 10)) * 16)) + (Int.tmod t209 10))) (wrap64 ((wrap64 ((wrap64 (Int.tdiv (Int.tmod t210 100) 10)) * 16)) + (Int.tmod t210 10))) 0 t222 t223 _ A20.out).mono ?_); rintro e w' ⟨rfl, ⟨nd, rfl⟩⟩; refine ⟨_, rfl, ?_⟩) | ((with_reducible refine gate_callee (f := 25) rfl ?_); refine goesL_ (some 127) rfl rfl Try.func25 (by kernel_rfl) rfl #[.int .i64 t222, .int .i64 t223] rfl (by (try simp only [List.map_toArray, List.map_cons, List.map_nil]); first | done | rfl | (simp only [List.length_drop, List.length_take]; rfl)) ?_; (with_reducible refine (impl_Daa.calls kj7 t222 t223 t224 t225 _ A21.out).mono ?_); rintro e w' ⟨rfl, ⟨nd, rfl⟩⟩; refine ⟨_, rfl, ?_⟩))
              go_ret
              exact ⟨by first | rfl | (simp [errW_none, errW_some] <;> rfl) | (simp [*, errW_none, errW_some] <;> rfl), by repeat (first | (with_reducible first | exact HB.out | apply below_alloc | apply pw_below_drewN | apply below_drew1) | exact HB.out)⟩
          · rw [if_neg c22] at H
            have c22b0 : (t220 == (wrap64 ((wrap64 ((wrap64 (Int.tdiv (Int.tmod (wrap64 ((Int.tmod t209 100) + (Int.tmod t210 100))) 100) 10)) * 16)) + (Int.tmod (wrap64 ((Int.tmod t209 100) + (Int.tmod t210 100))) 10)))) = false := beq_eq_false_iff_ne.mpr c22
            have c22b1 : (t220 != (wrap64 ((wrap64 ((wrap64 (Int.tdiv (Int.tmod (wrap64 ((Int.tmod t209 100) + (Int.tmod t210 100))) 100) 10)) * 16)) + (Int.tmod (wrap64 ((Int.tmod t209 100) + (Int.tmod t210 100))) 10)))) = true := bne_iff_ne.mpr c22
            obtain rfl := Option.some.inj H
            go_wp2_with (first | ((with_reducible refine gate_callee (f := 27) rfl ?_); refine goesL_ (some 99) rfl rfl Try.func27 (by kernel_rfl) rfl #[.int .i64 0, .int .i64 (wrap64 ((wrap64 ((wrap64 (Int.tdiv (Int.tmod t209 100) 10)) * 16)) + (Int.tmod t209 10))), .int .i64 (wrap64 ((wrap64 ((wrap64 (Int.tdiv (Int.tmod t210 100) 10)) * 16)) + (Int.tmod t210 10))), .int .i64 0] rfl (by (try simp only [List.map_toArray, List.map_cons, List.map_nil]); first | done | rfl | (simp only [List.length_drop, List.length_take]; rfl)) ?_; (with_reducible refine (impl_Alu.calls kj7 0 (wrap64 ((wrap64 ((wrap64 (Int.tdiv (Int.tmod t209 100) 10)) * 16)) + (Int.tmod t209 10))) (wrap64 ((wrap64 ((wrap64 (Int.tdiv (Int.tmod t210 100) 10)) * 16)) + (Int.tmod t210 10))) 0 t218 t219 _ A18.out).mono ?_); rintro e w' ⟨rfl, ⟨nd, rfl⟩⟩; refine ⟨_, rfl, ?_⟩) | ((with_reducible refine gate_callee (f := 25) rfl ?_); refine goesL_ (some 105) rfl rfl Try.func25 (by kernel_rfl) rfl #[.int .i64 t218, .int .i64 t219] rfl (by (try simp only [List.map_toArray, List.map_cons, List.map_nil]); first | done | rfl | (simp only [List.length_drop, List.length_take]; rfl)) ?_; (with_reducible refine (impl_Daa.calls kj7 t218 t219 t220 t221 _ A19.out).mono ?_); rintro e w' ⟨rfl, ⟨nd, rfl⟩⟩; refine ⟨_, rfl, ?_⟩) | ((with_reducible refine gate_callee (f := 27) rfl ?_); refine goesL_ (some 121) rfl rfl Try.func27 (by kernel_rfl) rfl #[.int .i64 2, .int .i64 (wrap64 ((wrap64 ((wrap64 (Int.tdiv (Int.tmod t209 100) 10)) * 16)) + (Int.tmod t209 10))), .int .i64 (wrap64 ((wrap64 ((wrap64 (Int.tdiv (Int.tmod t210 100) 10)) * 16)) + (Int.tmod t210 10))), .int .i64 0] rfl (by (try simp only [List.map_toArray, List.map_cons, List.map_nil]); first | done | rfl | (simp only [List.length_drop, List.length_take]; rfl)) ?_; (with_reducible refine (impl_Alu.calls kj7 2 (wrap64 ((wrap64 ((wrap64 (Int.tdiv (Int.tmod t209 100) 10)) * 16)) + (Int.tmod t209 10))) (wrap64 ((wrap64 ((wrap64 (Int.tdiv (Int.tmod t210 100) 10)) * 16)) + (Int.tmod t210 10))) 0 t222 t223 _ A20.out).mono ?_); rintro e w' ⟨rfl, ⟨nd, rfl⟩⟩; refine ⟨_, rfl, ?_⟩) | ((with_reducible refine gate_callee (f := 25) rfl ?_); refine goesL_ (some 127) rfl rfl Try.func25 (by kernel_rfl) rfl #[.int .i64 t222, .int .i64 t223] rfl (by (try simp only [List.map_toArray, List.map_cons, List.map_nil]); first | done | rfl | (simp only [List.length_drop, List.length_take]; rfl)) ?_; (with_reducible refine (impl_Daa.calls kj7 t222 t223 t224 t225 _ A21.out).mono ?_); rintro e w' ⟨rfl, ⟨nd, rfl⟩⟩; refine ⟨_, rfl, ?_⟩))
            go_ret
            exact ⟨by first | rfl | (simp [errW_none, errW_some] <;> rfl) | (simp [*, errW_none, errW_some] <;> rfl), by repeat (first | (with_reducible first | exact HB.out | apply below_alloc | apply pw_below_drewN | apply below_drew1) | exact HB.out)⟩

/-- THE ONE PURE STATEMENT of laws_FnDaa: yours. -/
def laws_FnDaa.Pure : Prop := ∀ (l0 : List Int), l0.length ≤ maxLen → l0.length * 1 ≤ 140737488351232 → (∀ x ∈ l0, (Lit.int .u8 x).wf = true) → ∃ k, laws_FnDaa.f k l0 = some true
theorem laws_FnDaa.walk (P : laws_FnDaa.Pure) (a0 : Option Addr) (len0 cap0 : Nat) (z0 : List Int) (w : World) (w0 : (a0 = none ∧ len0 = 0 ∧ cap0 = 0 ∧ z0 = []) ∨ ∃ x, a0 = some x ∧ len0 ≤ cap0 ∧ cap0 ≤ maxLen ∧ z0.length = cap0 ∧ (∀ i, i < z0.length → w.cell? (x.add i) = some (.int .u8 (z0.getD i 0))) ∧ ∀ n ∈ z0, (Lit.int .u8 n).wf = true) (y0 : len0 * 1 ≤ 140737488351232) :
    Calls Try.prog 4 #[.slice a0 len0 cap0] w fun e w' => e = .returned (.bool true) ∧ Below w.heap.size w w' := by
  obtain ⟨l0, rfl, hr0, hm0, hw0, hc0⟩ := ReadsInt.ofRowC w0
  obtain ⟨k, h⟩ := P l0 hm0 y0 hw0
  refine (laws_FnDaa.calls k _ _ l0 true w (Kd.C_of_reads (d := (0 : Int)) (h1 := fun _ => rfl) hr0) hc0 h).mono ?_
  rintro e w' ⟨rfl, hd⟩
  exact ⟨rfl, hd⟩

end Go.Proofs.Ytahibkfcohajcaa.QFnDaa
