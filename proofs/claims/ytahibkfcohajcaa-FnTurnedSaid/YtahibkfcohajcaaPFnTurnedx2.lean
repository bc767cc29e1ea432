-- PRINTED BY print.sh 35421559b90ae4d0a3588c463048766b98c2df88dd9212a6774a882060cdf62d: not written by this session
import Derived.Test.YtahibkfcohajcaaPFnTurnedx0
import Derived.Test.YtahibkfcohajcaaPFnTurnedx1
namespace Go.Proofs.Ytahibkfcohajcaa.PFnTurned
open Go.RowKit Go.Proofs.YtahibkfcohajcaaW.PrintWords Go.Proofs.YtahibkfcohajcaaW.PrintLast Go.Proofs.YtahibkfcohajcaaW.PrintMore
attribute [local go_sem] max2_int min2_int max_two min_two max_three min_three max_four min_four   -- for this text's walks alone
set_option linter.unusedVariables false
set_option linter.unusedSimpArgs false

/-! ### impl_flags: function 66 -/
mutual
def impl_flags.j0 : Nat → Bool → Bool → Bool → Int → Option (Int)
  | 0, _, _, _, _ => none
  | k + 1, x1, x2, x3, x9 => if x1 = true then (impl_flags.j1 k x2 x3 (Go.bits .or .i64 x9 64)) else (impl_flags.j1 k x2 x3 x9)
def impl_flags.j1 : Nat → Bool → Bool → Int → Option (Int)
  | 0, _, _, _ => none
  | k + 1, x2, x3, x9 => if x2 = true then (if x3 = true then (some (Go.bits .or .i64 (Go.bits .or .i64 x9 32) 16)) else (some (Go.bits .or .i64 x9 32))) else (if x3 = true then (some (Go.bits .or .i64 x9 16)) else (some x9))
end
def impl_flags.f (k : Nat) (a0 : Bool) (a1 : Bool) (a2 : Bool) (a3 : Bool) : Option (Int) := if a0 = true then (impl_flags.j0 k a1 a2 a3 (Go.bits .or .i64 0 128)) else (impl_flags.j0 k a1 a2 a3 0)
theorem impl_flags.mono_l : ∀ k, (∀ y0 y1 y2 y3, LeO (impl_flags.j0 k y0 y1 y2 y3) (impl_flags.j0 (k + 1) y0 y1 y2 y3)) ∧ (∀ y0 y1 y2, LeO (impl_flags.j1 k y0 y1 y2) (impl_flags.j1 (k + 1) y0 y1 y2))
  | 0 => ⟨fun _ _ _ _ r h => by simp [impl_flags.j0] at h, fun _ _ _ r h => by simp [impl_flags.j1] at h⟩
  | k + 1 => by
    obtain ⟨ih0, ih1⟩ := impl_flags.mono_l k
    refine ⟨?_, ?_⟩
    · intro y0 y1 y2 y3
      unfold impl_flags.j0
      repeat' first
      | (with_reducible exact ih0 _ _ _ _)
      | (with_reducible exact ih1 _ _ _)
      | (with_reducible exact LeO.refl _)
      | (with_reducible exact LeO.none _)
      | (with_reducible refine LeO.ite ?_ ?_)
      | (with_reducible refine LeO.bind ?_ (fun _ => ?_))
      | exact ih0 _ _ _ _
      | exact ih1 _ _ _
      | exact LeO.none _
      | refine LeO.ite ?_ ?_
      | refine LeO.bind ?_ (fun _ => ?_)
    · intro y0 y1 y2
      unfold impl_flags.j1
      repeat' first
      | (with_reducible exact ih0 _ _ _ _)
      | (with_reducible exact ih1 _ _ _)
      | (with_reducible exact LeO.refl _)
      | (with_reducible exact LeO.none _)
      | (with_reducible refine LeO.ite ?_ ?_)
      | (with_reducible refine LeO.bind ?_ (fun _ => ?_))
      | exact ih0 _ _ _ _
      | exact ih1 _ _ _
      | exact LeO.none _
      | refine LeO.ite ?_ ?_
      | refine LeO.bind ?_ (fun _ => ?_)
theorem impl_flags.mono : ∀ a0 a1 a2 a3 k, LeO (impl_flags.f k a0 a1 a2 a3) (impl_flags.f (k + 1) a0 a1 a2 a3) := by
  intro a0 a1 a2 a3 k
  obtain ⟨ih0, ih1⟩ := impl_flags.mono_l k
  unfold impl_flags.f
  repeat' first
      | (with_reducible exact ih0 _ _ _ _)
      | (with_reducible exact ih1 _ _ _)
      | (with_reducible exact LeO.refl _)
      | (with_reducible exact LeO.none _)
      | (with_reducible refine LeO.ite ?_ ?_)
      | (with_reducible refine LeO.bind ?_ (fun _ => ?_))
      | exact ih0 _ _ _ _
      | exact ih1 _ _ _
      | exact LeO.none _
      | refine LeO.ite ?_ ?_
      | refine LeO.bind ?_ (fun _ => ?_)
set_option maxHeartbeats 8000000 in
set_option maxRecDepth 100000 in
theorem impl_flags.calls (k : Nat) (a0 : Bool) (a1 : Bool) (a2 : Bool) (a3 : Bool) (r : Int) (w : World) (h : impl_flags.f k a0 a1 a2 a3 = some r) :
    Calls Try.prog 66 #[.bool a0, .bool a1, .bool a2, .bool a3] w fun e w' => e = .returned (.int .i64 r) ∧ Drawn0 w w' := by
  have H : (if a0 = true then (impl_flags.j0 k a1 a2 a3 (Go.bits .or .i64 0 128)) else (impl_flags.j0 k a1 a2 a3 0)) = some r := h
  clear h
  have HC5 := Aside0.mk H
  clear H
  go_enter Try.func66, Try.ntmps66
  go_upto_if 10 with (fail)
  go_cut [9] (fun v9 wc => ∃ (kq : Nat) (x9_4 : Int), v9 = .int .i64 x9_4 ∧ Aside0 (impl_flags.j0 kq a1 a2 a3 x9_4 = some r) ∧ Aside0 (kq ≤ k) ∧ Drawn0 w wc)
  case first =>
    have H := HC5.out
    clear HC5
    by_cases c6 : a0 = true
    · subst c6
      have H1 : (impl_flags.j0 k a1 a2 a3 (Go.bits .or .i64 0 128)) = some r := by rw [if_pos rfl] at H; exact H
      clear H
      have H := H1
      clear H1
      have H' := Aside0.mk H
      clear H
      go_wp2
      go_meet
      case rel => exact ⟨_, (Go.bits .or .i64 0 128), (by first | rfl | (simp; done) | (simp [*]; done)), H', ⟨by first | omega | exact Nat.le_refl _⟩, by repeat (first | exact Drawn0.refl _ | apply Drawn0.step)⟩
    · replace c6 := Bool.eq_false_iff.mpr c6
      subst c6
      have H1 : (impl_flags.j0 k a1 a2 a3 0) = some r := by rw [if_neg (show ¬ (false = true) by decide)] at H; exact H
      clear H
      have H := H1
      clear H1
      have H' := Aside0.mk H
      clear H
      go_wp2
      go_meet
      case rel => exact ⟨_, (0), (by first | rfl | (simp; done) | (simp [*]; done)), H', ⟨by first | omega | exact Nat.le_refl _⟩, by repeat (first | exact Drawn0.refl _ | apply Drawn0.step)⟩
  case rest =>
    clear HC5
    try clear p2
    try clear c6
    obtain ⟨kq, x9_4, rfl, HA, HJ4, ⟨mc4, rfl⟩⟩ := hcut
    cases kq with
    | zero => exact absurd HA.out (by simp [impl_flags.j0])
    | succ kj4 =>
      have H := HA.out
      clear HA
      simp only [impl_flags.j0] at H
      have HC7 := Aside0.mk H
      clear H
      go_upto_if 13 with (fail)
      go_cut [9] (fun v9 wc => ∃ (kq : Nat) (x9_6 : Int), v9 = .int .i64 x9_6 ∧ Aside0 (impl_flags.j1 kq a2 a3 x9_6 = some r) ∧ Aside0 (kq ≤ kj4) ∧ Drawn0 w wc)
      case first =>
        have H := HC7.out
        clear HC7
        by_cases c8 : a1 = true
        · subst c8
          have H1 : (impl_flags.j1 kj4 a2 a3 (Go.bits .or .i64 x9_4 64)) = some r := by rw [if_pos rfl] at H; exact H
          clear H
          have H := H1
          clear H1
          have H' := Aside0.mk H
          clear H
          go_wp2
          go_meet
          case rel => exact ⟨_, (Go.bits .or .i64 x9_4 64), (by first | rfl | (simp; done) | (simp [*]; done)), H', ⟨by have := HJ4.out; first | omega | exact Nat.le_refl _⟩, by repeat (first | exact Drawn0.refl _ | apply Drawn0.step)⟩
        · replace c8 := Bool.eq_false_iff.mpr c8
          subst c8
          have H1 : (impl_flags.j1 kj4 a2 a3 x9_4) = some r := by rw [if_neg (show ¬ (false = true) by decide)] at H; exact H
          clear H
          have H := H1
          clear H1
          have H' := Aside0.mk H
          clear H
          go_wp2
          go_meet
          case rel => exact ⟨_, (x9_4), (by first | rfl | (simp; done) | (simp [*]; done)), H', ⟨by have := HJ4.out; first | omega | exact Nat.le_refl _⟩, by repeat (first | exact Drawn0.refl _ | apply Drawn0.step)⟩
      case rest =>
        clear HC7
        try clear p2
        try clear c4
        try clear c6
        try clear c8
        try clear p2
        obtain ⟨kq, x9_6, rfl, HA, HJ6, ⟨mc6, rfl⟩⟩ := hcut
        cases kq with
        | zero => exact absurd HA.out (by simp [impl_flags.j1])
        | succ kj6 =>
          have H := HA.out
          clear HA
          simp only [impl_flags.j1] at H
          by_cases c9 : a2 = true
          · subst c9
            have H1 : (if a3 = true then (some (Go.bits .or .i64 (Go.bits .or .i64 x9_6 32) 16)) else (some (Go.bits .or .i64 x9_6 32))) = some r := by rw [if_pos rfl] at H; exact H
            clear H
            have H := H1
            clear H1
            by_cases c10 : a3 = true
            · subst c10
              have H1 : (some (Go.bits .or .i64 (Go.bits .or .i64 x9_6 32) 16)) = some r := by rw [if_pos rfl] at H; exact H
              clear H
              have H := H1
              clear H1
              obtain rfl := Option.some.inj H
              go_wp2
              go_ret
              exact ⟨by first | rfl | (simp; done) | (simp [*]; done), by repeat (first | exact Drawn0.refl _ | apply Drawn0.step)⟩
            · replace c10 := Bool.eq_false_iff.mpr c10
              subst c10
              have H1 : (some (Go.bits .or .i64 x9_6 32)) = some r := by rw [if_neg (show ¬ (false = true) by decide)] at H; exact H
              clear H
              have H := H1
              clear H1
              obtain rfl := Option.some.inj H
              go_wp2
              go_ret
              exact ⟨by first | rfl | (simp; done) | (simp [*]; done), by repeat (first | exact Drawn0.refl _ | apply Drawn0.step)⟩
          · replace c9 := Bool.eq_false_iff.mpr c9
            subst c9
            have H1 : (if a3 = true then (some (Go.bits .or .i64 x9_6 16)) else (some x9_6)) = some r := by rw [if_neg (show ¬ (false = true) by decide)] at H; exact H
            clear H
            have H := H1
            clear H1
            by_cases c11 : a3 = true
            · subst c11
              have H1 : (some (Go.bits .or .i64 x9_6 16)) = some r := by rw [if_pos rfl] at H; exact H
              clear H
              have H := H1
              clear H1
              obtain rfl := Option.some.inj H
              go_wp2
              go_ret
              exact ⟨by first | rfl | (simp; done) | (simp [*]; done), by repeat (first | exact Drawn0.refl _ | apply Drawn0.step)⟩
            · replace c11 := Bool.eq_false_iff.mpr c11
              subst c11
              have H1 : (some x9_6) = some r := by rw [if_neg (show ¬ (false = true) by decide)] at H; exact H
              clear H
              have H := H1
              clear H1
              obtain rfl := Option.some.inj H
              go_wp2
              go_ret
              exact ⟨by first | rfl | (simp; done) | (simp [*]; done), by repeat (first | exact Drawn0.refl _ | apply Drawn0.step)⟩

/-! ### impl_Turned: function 39 -/
def impl_Turned.j0 : Nat → Int → Int → Int → Bool → Option (Int × Int)
  | 0, _, _, _, _ => none
  | k + 1, x0, x1, x2, x23 => if x23 = true then (some (0, 0)) else (if x0 = 0 then ((impl_flags.f k ((Go.bits .and .i64 (Go.bits .or .i64 (wrap64 (x1 * 2)) (x1 / 128)) 255) == 0) false false ((x1 / 128) == 1)).bind fun t160 => (some (Go.bits .and .i64 (Go.bits .or .i64 (wrap64 (x1 * 2)) (x1 / 128)) 255, t160))) else (if x0 = 1 then ((impl_flags.f k ((Go.bits .and .i64 (Go.bits .or .i64 (x1 / 2) (wrap64 (x1 * 128))) 255) == 0) false false ((Go.bits .and .i64 x1 1) == 1)).bind fun t161 => (some (Go.bits .and .i64 (Go.bits .or .i64 (x1 / 2) (wrap64 (x1 * 128))) 255, t161))) else (if x0 = 2 then ((impl_flags.f k ((Go.bits .and .i64 (Go.bits .or .i64 (wrap64 (x1 * 2)) (Go.bits .and .i64 (wrap64 (Int.tdiv x2 16)) 1)) 255) == 0) false false ((x1 / 128) == 1)).bind fun t162 => (some (Go.bits .and .i64 (Go.bits .or .i64 (wrap64 (x1 * 2)) (Go.bits .and .i64 (wrap64 (Int.tdiv x2 16)) 1)) 255, t162))) else (if x0 = 3 then ((impl_flags.f k ((Go.bits .and .i64 (Go.bits .or .i64 (x1 / 2) (wrap64 ((Go.bits .and .i64 (wrap64 (Int.tdiv x2 16)) 1) * 128))) 255) == 0) false false ((Go.bits .and .i64 x1 1) == 1)).bind fun t163 => (some (Go.bits .and .i64 (Go.bits .or .i64 (x1 / 2) (wrap64 ((Go.bits .and .i64 (wrap64 (Int.tdiv x2 16)) 1) * 128))) 255, t163))) else (if x0 = 4 then ((impl_flags.f k ((Go.bits .and .i64 (wrap64 (x1 * 2)) 255) == 0) false false ((x1 / 128) == 1)).bind fun t164 => (some (Go.bits .and .i64 (wrap64 (x1 * 2)) 255, t164))) else (if x0 = 5 then ((impl_flags.f k ((Go.bits .and .i64 (Go.bits .or .i64 (x1 / 2) (Go.bits .and .i64 x1 128)) 255) == 0) false false ((Go.bits .and .i64 x1 1) == 1)).bind fun t165 => (some (Go.bits .and .i64 (Go.bits .or .i64 (x1 / 2) (Go.bits .and .i64 x1 128)) 255, t165))) else (if x0 = 6 then ((impl_flags.f k ((Go.bits .and .i64 (Go.bits .or .i64 (wrap64 (x1 * 16)) (x1 / 16)) 255) == 0) false false (0 == 1)).bind fun t166 => (some (Go.bits .and .i64 (Go.bits .or .i64 (wrap64 (x1 * 16)) (x1 / 16)) 255, t166))) else (if x0 = 7 then ((impl_flags.f k ((Go.bits .and .i64 (x1 / 2) 255) == 0) false false ((Go.bits .and .i64 x1 1) == 1)).bind fun t167 => (some (Go.bits .and .i64 (x1 / 2) 255, t167))) else ((impl_flags.f k ((Go.bits .and .i64 0 255) == 0) false false (0 == 1)).bind fun t168 => (some (Go.bits .and .i64 0 255, t168)))))))))))
def impl_Turned.f (k : Nat) (a0 : Int) (a1 : Int) (a2 : Int) : Option (Int × Int) := (impl_within.f a0 0 7).bind fun t157 => (if t157 = true then ((impl_isByte.f a1).bind fun t158 => (if t158 = true then ((impl_isByte.f a2).bind fun t159 => (impl_Turned.j0 k a0 a1 a2 (!t159))) else (impl_Turned.j0 k a0 a1 a2 true))) else (impl_Turned.j0 k a0 a1 a2 true))
theorem impl_Turned.mono_l : ∀ k, (∀ y0 y1 y2 y3, LeO (impl_Turned.j0 k y0 y1 y2 y3) (impl_Turned.j0 (k + 1) y0 y1 y2 y3))
  | 0 => fun _ _ _ _ r h => by simp [impl_Turned.j0] at h
  | k + 1 => by
    have ih0 := impl_Turned.mono_l k
    · intro y0 y1 y2 y3
      unfold impl_Turned.j0
      repeat' first
      | (with_reducible exact ih0 _ _ _ _)
      | (with_reducible exact impl_flags.mono _ _ _ _ _)
      | (with_reducible exact LeO.refl _)
      | (with_reducible exact LeO.none _)
      | (with_reducible refine LeO.ite ?_ ?_)
      | (with_reducible refine LeO.bind ?_ (fun _ => ?_))
      | exact ih0 _ _ _ _
      | exact impl_flags.mono _ _ _ _ _
      | exact LeO.none _
      | refine LeO.ite ?_ ?_
      | refine LeO.bind ?_ (fun _ => ?_)
theorem impl_Turned.mono : ∀ a0 a1 a2 k, LeO (impl_Turned.f k a0 a1 a2) (impl_Turned.f (k + 1) a0 a1 a2) := by
  intro a0 a1 a2 k
  have ih0 := impl_Turned.mono_l k
  unfold impl_Turned.f
  repeat' first
      | (with_reducible exact ih0 _ _ _ _)
      | (with_reducible exact impl_flags.mono _ _ _ _ _)
      | (with_reducible exact LeO.refl _)
      | (with_reducible exact LeO.none _)
      | (with_reducible refine LeO.ite ?_ ?_)
      | (with_reducible refine LeO.bind ?_ (fun _ => ?_))
      | exact ih0 _ _ _ _
      | exact impl_flags.mono _ _ _ _ _
      | exact LeO.none _
      | refine LeO.ite ?_ ?_
      | refine LeO.bind ?_ (fun _ => ?_)
set_option maxHeartbeats 8000000 in
set_option maxRecDepth 100000 in
theorem impl_Turned.calls (k : Nat) (a0 : Int) (a1 : Int) (a2 : Int) (r1 : Int) (r2 : Int) (w : World) (h : impl_Turned.f k a0 a1 a2 = some (r1, r2)) :
    Calls Try.prog 39 #[.int .i64 a0, .int .i64 a1, .int .i64 a2] w fun e w' => e = .returned (.tuple #[.int .i64 r1, .int .i64 r2]) ∧ Drawn0 w w' := by
  have H : ((impl_within.f a0 0 7).bind fun t157 => (if t157 = true then ((impl_isByte.f a1).bind fun t158 => (if t158 = true then ((impl_isByte.f a2).bind fun t159 => (impl_Turned.j0 k a0 a1 a2 (!t159))) else (impl_Turned.j0 k a0 a1 a2 true))) else (impl_Turned.j0 k a0 a1 a2 true))) = some (r1, r2) := h
  clear h
  have HC4 := Aside0.mk H
  clear H
  go_enter Try.func39, Try.ntmps39
  go_upto_region 1 with (fail)
  go_cut [23] (fun v23 wc => ∃ (kq : Nat) (x23_3 : Bool), v23 = .bool x23_3 ∧ Aside0 (impl_Turned.j0 kq a0 a1 a2 x23_3 = some (r1, r2)) ∧ Aside0 (kq ≤ k) ∧ Drawn0 w wc)
  case first =>
    have H := HC4.out
    clear HC4
    replace H := Option.bind_eq_some_iff.mp H
    obtain ⟨t157, A50, H⟩ := H
    replace H : (if t157 = true then ((impl_isByte.f a1).bind fun t158 => (if t158 = true then ((impl_isByte.f a2).bind fun t159 => (impl_Turned.j0 k a0 a1 a2 (!t159))) else (impl_Turned.j0 k a0 a1 a2 true))) else (impl_Turned.j0 k a0 a1 a2 true)) = some (r1, r2) := H
    have A5 := Aside0.mk A50
    clear A50
    by_cases c6 : t157 = true
    · subst c6
      have H1 : ((impl_isByte.f a1).bind fun t158 => (if t158 = true then ((impl_isByte.f a2).bind fun t159 => (impl_Turned.j0 k a0 a1 a2 (!t159))) else (impl_Turned.j0 k a0 a1 a2 true))) = some (r1, r2) := by rw [if_pos rfl] at H; exact H
      clear H
      have H := H1
      clear H1
      replace H := Option.bind_eq_some_iff.mp H
      obtain ⟨t158, A70, H⟩ := H
      replace H : (if t158 = true then ((impl_isByte.f a2).bind fun t159 => (impl_Turned.j0 k a0 a1 a2 (!t159))) else (impl_Turned.j0 k a0 a1 a2 true)) = some (r1, r2) := H
      have A7 := Aside0.mk A70
      clear A70
      by_cases c8 : t158 = true
      · subst c8
        have H1 : ((impl_isByte.f a2).bind fun t159 => (impl_Turned.j0 k a0 a1 a2 (!t159))) = some (r1, r2) := by rw [if_pos rfl] at H; exact H
        clear H
        have H := H1
        clear H1
        replace H := Option.bind_eq_some_iff.mp H
        obtain ⟨t159, A90, H⟩ := H
        replace H : (impl_Turned.j0 k a0 a1 a2 (!t159)) = some (r1, r2) := H
        have A9 := Aside0.mk A90
        clear A90
        have H' := Aside0.mk H
        clear H
        go_wp2_with (first | ((with_reducible refine gate_callee (f := 60) rfl ?_); refine goesL_ (some 12) rfl rfl Try.func60 (by kernel_rfl) rfl #[.int .i64 a0, .int .i64 0, .int .i64 7] rfl (by (try simp only [List.map_toArray, List.map_cons, List.map_nil]); first | done | rfl | (simp only [List.length_drop, List.length_take]; rfl)) ?_; (with_reducible refine (impl_within.calls a0 0 7 true _ A5.out).mono ?_); rintro e w' ⟨rfl, ⟨nd, rfl⟩⟩; refine ⟨_, rfl, ?_⟩) | (go_at_call 57; (with_reducible refine (impl_isByte.calls a1 true _ A7.out).mono ?_); rintro e w' ⟨rfl, ⟨nd, rfl⟩⟩) | (go_at_call 57; (with_reducible refine (impl_isByte.calls a2 t159 _ A9.out).mono ?_); rintro e w' ⟨rfl, ⟨nd, rfl⟩⟩))
        go_meet
        case rel => exact ⟨_, (!t159), (by first | rfl | (simp; done) | (simp [*]; done)), H', ⟨by first | omega | exact Nat.le_refl _⟩, by repeat (first | exact Drawn0.refl _ | apply Drawn0.step)⟩
      · replace c8 := Bool.eq_false_iff.mpr c8
        subst c8
        have H1 : (impl_Turned.j0 k a0 a1 a2 true) = some (r1, r2) := by rw [if_neg (show ¬ (false = true) by decide)] at H; exact H
        clear H
        have H := H1
        clear H1
        have H' := Aside0.mk H
        clear H
        go_wp2_with (first | ((with_reducible refine gate_callee (f := 60) rfl ?_); refine goesL_ (some 12) rfl rfl Try.func60 (by kernel_rfl) rfl #[.int .i64 a0, .int .i64 0, .int .i64 7] rfl (by (try simp only [List.map_toArray, List.map_cons, List.map_nil]); first | done | rfl | (simp only [List.length_drop, List.length_take]; rfl)) ?_; (with_reducible refine (impl_within.calls a0 0 7 true _ A5.out).mono ?_); rintro e w' ⟨rfl, ⟨nd, rfl⟩⟩; refine ⟨_, rfl, ?_⟩) | (go_at_call 57; (with_reducible refine (impl_isByte.calls a1 false _ A7.out).mono ?_); rintro e w' ⟨rfl, ⟨nd, rfl⟩⟩))
        go_meet
        case rel => exact ⟨_, (true), (by first | rfl | (simp; done) | (simp [*]; done)), H', ⟨by first | omega | exact Nat.le_refl _⟩, by repeat (first | exact Drawn0.refl _ | apply Drawn0.step)⟩
    · replace c6 := Bool.eq_false_iff.mpr c6
      subst c6
      have H1 : (impl_Turned.j0 k a0 a1 a2 true) = some (r1, r2) := by rw [if_neg (show ¬ (false = true) by decide)] at H; exact H
      clear H
      have H := H1
      clear H1
      have H' := Aside0.mk H
      clear H
      go_wp2_with (first | ((with_reducible refine gate_callee (f := 60) rfl ?_); refine goesL_ (some 12) rfl rfl Try.func60 (by kernel_rfl) rfl #[.int .i64 a0, .int .i64 0, .int .i64 7] rfl (by (try simp only [List.map_toArray, List.map_cons, List.map_nil]); first | done | rfl | (simp only [List.length_drop, List.length_take]; rfl)) ?_; (with_reducible refine (impl_within.calls a0 0 7 false _ A5.out).mono ?_); rintro e w' ⟨rfl, ⟨nd, rfl⟩⟩; refine ⟨_, rfl, ?_⟩))
      go_meet
      case rel => exact ⟨_, (true), (by first | rfl | (simp; done) | (simp [*]; done)), H', ⟨by first | omega | exact Nat.le_refl _⟩, by repeat (first | exact Drawn0.refl _ | apply Drawn0.step)⟩
  case rest =>
    clear HC4
    try clear p2
    try clear c3
    try clear c6
    try clear c8
    obtain ⟨kq, x23_3, rfl, HA, HJ3, ⟨mc3, rfl⟩⟩ := hcut
    cases kq with
    | zero => exact absurd HA.out (by simp [impl_Turned.j0])
    | succ kj3 =>
      have H := HA.out
      clear HA
      simp only [impl_Turned.j0] at H
      by_cases c10 : x23_3 = true
      · subst c10
        have H1 : (some (0, 0)) = some (r1, r2) := by rw [if_pos rfl] at H; exact H
        clear H
        have H := H1
        clear H1
        simp only [Option.some.injEq, Prod.mk.injEq] at H
        obtain ⟨rfl, rfl⟩ := H
        go_wp2
        go_ret2
        exact ⟨by first | rfl | (simp; done) | (simp [*]; done), by repeat (first | exact Drawn0.refl _ | apply Drawn0.step)⟩
      · replace c10 := Bool.eq_false_iff.mpr c10
        subst c10
        have H1 : (if a0 = 0 then ((impl_flags.f kj3 ((Go.bits .and .i64 (Go.bits .or .i64 (wrap64 (a1 * 2)) (a1 / 128)) 255) == 0) false false ((a1 / 128) == 1)).bind fun t160 => (some (Go.bits .and .i64 (Go.bits .or .i64 (wrap64 (a1 * 2)) (a1 / 128)) 255, t160))) else (if a0 = 1 then ((impl_flags.f kj3 ((Go.bits .and .i64 (Go.bits .or .i64 (a1 / 2) (wrap64 (a1 * 128))) 255) == 0) false false ((Go.bits .and .i64 a1 1) == 1)).bind fun t161 => (some (Go.bits .and .i64 (Go.bits .or .i64 (a1 / 2) (wrap64 (a1 * 128))) 255, t161))) else (if a0 = 2 then ((impl_flags.f kj3 ((Go.bits .and .i64 (Go.bits .or .i64 (wrap64 (a1 * 2)) (Go.bits .and .i64 (wrap64 (Int.tdiv a2 16)) 1)) 255) == 0) false false ((a1 / 128) == 1)).bind fun t162 => (some (Go.bits .and .i64 (Go.bits .or .i64 (wrap64 (a1 * 2)) (Go.bits .and .i64 (wrap64 (Int.tdiv a2 16)) 1)) 255, t162))) else (if a0 = 3 then ((impl_flags.f kj3 ((Go.bits .and .i64 (Go.bits .or .i64 (a1 / 2) (wrap64 ((Go.bits .and .i64 (wrap64 (Int.tdiv a2 16)) 1) * 128))) 255) == 0) false false ((Go.bits .and .i64 a1 1) == 1)).bind fun t163 => (some (Go.bits .and .i64 (Go.bits .or .i64 (a1 / 2) (wrap64 ((Go.bits .and .i64 (wrap64 (Int.tdiv a2 16)) 1) * 128))) 255, t163))) else (if a0 = 4 then ((impl_flags.f kj3 ((Go.bits .and .i64 (wrap64 (a1 * 2)) 255) == 0) false false ((a1 / 128) == 1)).bind fun t164 => (some (Go.bits .and .i64 (wrap64 (a1 * 2)) 255, t164))) else (if a0 = 5 then ((impl_flags.f kj3 ((Go.bits .and .i64 (Go.bits .or .i64 (a1 / 2) (Go.bits .and .i64 a1 128)) 255) == 0) false false ((Go.bits .and .i64 a1 1) == 1)).bind fun t165 => (some (Go.bits .and .i64 (Go.bits .or .i64 (a1 / 2) (Go.bits .and .i64 a1 128)) 255, t165))) else (if a0 = 6 then ((impl_flags.f kj3 ((Go.bits .and .i64 (Go.bits .or .i64 (wrap64 (a1 * 16)) (a1 / 16)) 255) == 0) false false (0 == 1)).bind fun t166 => (some (Go.bits .and .i64 (Go.bits .or .i64 (wrap64 (a1 * 16)) (a1 / 16)) 255, t166))) else (if a0 = 7 then ((impl_flags.f kj3 ((Go.bits .and .i64 (a1 / 2) 255) == 0) false false ((Go.bits .and .i64 a1 1) == 1)).bind fun t167 => (some (Go.bits .and .i64 (a1 / 2) 255, t167))) else ((impl_flags.f kj3 ((Go.bits .and .i64 0 255) == 0) false false (0 == 1)).bind fun t168 => (some (Go.bits .and .i64 0 255, t168))))))))))) = some (r1, r2) := by rw [if_neg (show ¬ (false = true) by decide)] at H; exact H
        clear H
        have H := H1
        clear H1
        by_cases c11 : a0 = 0
        · rw [if_pos c11] at H
          have c11b0 : (a0 == 0) = true := beq_iff_eq.mpr c11
          have c11b1 : (a0 != 0) = false := bne_eq_false_iff_eq.mpr c11
          clear c11
          replace H := Option.bind_eq_some_iff.mp H
          obtain ⟨t160, A120, H⟩ := H
          replace H : (some (Go.bits .and .i64 (Go.bits .or .i64 (wrap64 (a1 * 2)) (a1 / 128)) 255, t160)) = some (r1, r2) := H
          have A12 := Aside0.mk A120
          clear A120
          simp only [Option.some.injEq, Prod.mk.injEq] at H
          obtain ⟨rfl, rfl⟩ := H
          go_wp2_with (first | ((with_reducible refine gate_callee (f := 66) rfl ?_); refine goesL_ (some 98) rfl rfl Try.func66 (by kernel_rfl) rfl #[.bool ((Go.bits .and .i64 (Go.bits .or .i64 (wrap64 (a1 * 2)) (a1 / 128)) 255) == 0), .bool false, .bool false, .bool ((a1 / 128) == 1)] rfl (by (try simp only [List.map_toArray, List.map_cons, List.map_nil]); first | done | rfl | (simp only [List.length_drop, List.length_take]; rfl)) ?_; (with_reducible refine (impl_flags.calls kj3 ((Go.bits .and .i64 (Go.bits .or .i64 (wrap64 (a1 * 2)) (a1 / 128)) 255) == 0) false false ((a1 / 128) == 1) t160 _ A12.out).mono ?_); rintro e w' ⟨rfl, ⟨nd, rfl⟩⟩; refine ⟨_, rfl, ?_⟩))
          go_ret2
          exact ⟨by first | rfl | (simp; done) | (simp [*]; done), by repeat (first | exact Drawn0.refl _ | apply Drawn0.step)⟩
        · rw [if_neg c11] at H
          have c11b0 : (a0 == 0) = false := beq_eq_false_iff_ne.mpr c11
          have c11b1 : (a0 != 0) = true := bne_iff_ne.mpr c11
          by_cases c13 : a0 = 1
          · rw [if_pos c13] at H
            have c13b0 : (a0 == 1) = true := beq_iff_eq.mpr c13
            have c13b1 : (a0 != 1) = false := bne_eq_false_iff_eq.mpr c13
            clear c13
            replace H := Option.bind_eq_some_iff.mp H
            obtain ⟨t161, A140, H⟩ := H
            replace H : (some (Go.bits .and .i64 (Go.bits .or .i64 (a1 / 2) (wrap64 (a1 * 128))) 255, t161)) = some (r1, r2) := H
            have A14 := Aside0.mk A140
            clear A140
            simp only [Option.some.injEq, Prod.mk.injEq] at H
            obtain ⟨rfl, rfl⟩ := H
            go_wp2_with (first | ((with_reducible refine gate_callee (f := 66) rfl ?_); refine goesL_ (some 98) rfl rfl Try.func66 (by kernel_rfl) rfl #[.bool ((Go.bits .and .i64 (Go.bits .or .i64 (a1 / 2) (wrap64 (a1 * 128))) 255) == 0), .bool false, .bool false, .bool ((Go.bits .and .i64 a1 1) == 1)] rfl (by (try simp only [List.map_toArray, List.map_cons, List.map_nil]); first | done | rfl | (simp only [List.length_drop, List.length_take]; rfl)) ?_; (with_reducible refine (impl_flags.calls kj3 ((Go.bits .and .i64 (Go.bits .or .i64 (a1 / 2) (wrap64 (a1 * 128))) 255) == 0) false false ((Go.bits .and .i64 a1 1) == 1) t161 _ A14.out).mono ?_); rintro e w' ⟨rfl, ⟨nd, rfl⟩⟩; refine ⟨_, rfl, ?_⟩))
            go_ret2
            exact ⟨by first | rfl | (simp; done) | (simp [*]; done), by repeat (first | exact Drawn0.refl _ | apply Drawn0.step)⟩
          · rw [if_neg c13] at H
            have c13b0 : (a0 == 1) = false := beq_eq_false_iff_ne.mpr c13
            have c13b1 : (a0 != 1) = true := bne_iff_ne.mpr c13
            by_cases c15 : a0 = 2
            · rw [if_pos c15] at H
              have c15b0 : (a0 == 2) = true := beq_iff_eq.mpr c15
              have c15b1 : (a0 != 2) = false := bne_eq_false_iff_eq.mpr c15
              clear c15
              replace H := Option.bind_eq_some_iff.mp H
              obtain ⟨t162, A160, H⟩ := H
              replace H : (some (Go.bits .and .i64 (Go.bits .or .i64 (wrap64 (a1 * 2)) (Go.bits .and .i64 (wrap64 (Int.tdiv a2 16)) 1)) 255, t162)) = some (r1, r2) := H
              have A16 := Aside0.mk A160
              clear A160
              simp only [Option.some.injEq, Prod.mk.injEq] at H
              obtain ⟨rfl, rfl⟩ := H
              go_wp2_with (first | ((with_reducible refine gate_callee (f := 66) rfl ?_); refine goesL_ (some 98) rfl rfl Try.func66 (by kernel_rfl) rfl #[.bool ((Go.bits .and .i64 (Go.bits .or .i64 (wrap64 (a1 * 2)) (Go.bits .and .i64 (wrap64 (Int.tdiv a2 16)) 1)) 255) == 0), .bool false, .bool false, .bool ((a1 / 128) == 1)] rfl (by (try simp only [List.map_toArray, List.map_cons, List.map_nil]); first | done | rfl | (simp only [List.length_drop, List.length_take]; rfl)) ?_; (with_reducible refine (impl_flags.calls kj3 ((Go.bits .and .i64 (Go.bits .or .i64 (wrap64 (a1 * 2)) (Go.bits .and .i64 (wrap64 (Int.tdiv a2 16)) 1)) 255) == 0) false false ((a1 / 128) == 1) t162 _ A16.out).mono ?_); rintro e w' ⟨rfl, ⟨nd, rfl⟩⟩; refine ⟨_, rfl, ?_⟩))
              go_ret2
              exact ⟨by first | rfl | (simp; done) | (simp [*]; done), by repeat (first | exact Drawn0.refl _ | apply Drawn0.step)⟩
            · rw [if_neg c15] at H
              have c15b0 : (a0 == 2) = false := beq_eq_false_iff_ne.mpr c15
              have c15b1 : (a0 != 2) = true := bne_iff_ne.mpr c15
              by_cases c17 : a0 = 3
              · rw [if_pos c17] at H
                have c17b0 : (a0 == 3) = true := beq_iff_eq.mpr c17
                have c17b1 : (a0 != 3) = false := bne_eq_false_iff_eq.mpr c17
                clear c17
                replace H := Option.bind_eq_some_iff.mp H
                obtain ⟨t163, A180, H⟩ := H
                replace H : (some (Go.bits .and .i64 (Go.bits .or .i64 (a1 / 2) (wrap64 ((Go.bits .and .i64 (wrap64 (Int.tdiv a2 16)) 1) * 128))) 255, t163)) = some (r1, r2) := H
                have A18 := Aside0.mk A180
                clear A180
                simp only [Option.some.injEq, Prod.mk.injEq] at H
                obtain ⟨rfl, rfl⟩ := H
                go_wp2_with (first | ((with_reducible refine gate_callee (f := 66) rfl ?_); refine goesL_ (some 98) rfl rfl Try.func66 (by kernel_rfl) rfl #[.bool ((Go.bits .and .i64 (Go.bits .or .i64 (a1 / 2) (wrap64 ((Go.bits .and .i64 (wrap64 (Int.tdiv a2 16)) 1) * 128))) 255) == 0), .bool false, .bool false, .bool ((Go.bits .and .i64 a1 1) == 1)] rfl (by (try simp only [List.map_toArray, List.map_cons, List.map_nil]); first | done | rfl | (simp only [List.length_drop, List.length_take]; rfl)) ?_; (with_reducible refine (impl_flags.calls kj3 ((Go.bits .and .i64 (Go.bits .or .i64 (a1 / 2) (wrap64 ((Go.bits .and .i64 (wrap64 (Int.tdiv a2 16)) 1) * 128))) 255) == 0) false false ((Go.bits .and .i64 a1 1) == 1) t163 _ A18.out).mono ?_); rintro e w' ⟨rfl, ⟨nd, rfl⟩⟩; refine ⟨_, rfl, ?_⟩))
                go_ret2
                exact ⟨by first | rfl | (simp; done) | (simp [*]; done), by repeat (first | exact Drawn0.refl _ | apply Drawn0.step)⟩
              · rw [if_neg c17] at H
                have c17b0 : (a0 == 3) = false := beq_eq_false_iff_ne.mpr c17
                have c17b1 : (a0 != 3) = true := bne_iff_ne.mpr c17
                by_cases c19 : a0 = 4
                · rw [if_pos c19] at H
                  have c19b0 : (a0 == 4) = true := beq_iff_eq.mpr c19
                  have c19b1 : (a0 != 4) = false := bne_eq_false_iff_eq.mpr c19
                  clear c19
                  replace H := Option.bind_eq_some_iff.mp H
                  obtain ⟨t164, A200, H⟩ := H
                  replace H : (some (Go.bits .and .i64 (wrap64 (a1 * 2)) 255, t164)) = some (r1, r2) := H
                  have A20 := Aside0.mk A200
                  clear A200
                  simp only [Option.some.injEq, Prod.mk.injEq] at H
                  obtain ⟨rfl, rfl⟩ := H
                  go_wp2_with (first | ((with_reducible refine gate_callee (f := 66) rfl ?_); refine goesL_ (some 98) rfl rfl Try.func66 (by kernel_rfl) rfl #[.bool ((Go.bits .and .i64 (wrap64 (a1 * 2)) 255) == 0), .bool false, .bool false, .bool ((a1 / 128) == 1)] rfl (by (try simp only [List.map_toArray, List.map_cons, List.map_nil]); first | done | rfl | (simp only [List.length_drop, List.length_take]; rfl)) ?_; (with_reducible refine (impl_flags.calls kj3 ((Go.bits .and .i64 (wrap64 (a1 * 2)) 255) == 0) false false ((a1 / 128) == 1) t164 _ A20.out).mono ?_); rintro e w' ⟨rfl, ⟨nd, rfl⟩⟩; refine ⟨_, rfl, ?_⟩))
                  go_ret2
                  exact ⟨by first | rfl | (simp; done) | (simp [*]; done), by repeat (first | exact Drawn0.refl _ | apply Drawn0.step)⟩
                · rw [if_neg c19] at H
                  have c19b0 : (a0 == 4) = false := beq_eq_false_iff_ne.mpr c19
                  have c19b1 : (a0 != 4) = true := bne_iff_ne.mpr c19
                  by_cases c21 : a0 = 5
                  · rw [if_pos c21] at H
                    have c21b0 : (a0 == 5) = true := beq_iff_eq.mpr c21
                    have c21b1 : (a0 != 5) = false := bne_eq_false_iff_eq.mpr c21
                    clear c21
                    replace H := Option.bind_eq_some_iff.mp H
                    obtain ⟨t165, A220, H⟩ := H
                    replace H : (some (Go.bits .and .i64 (Go.bits .or .i64 (a1 / 2) (Go.bits .and .i64 a1 128)) 255, t165)) = some (r1, r2) := H
                    have A22 := Aside0.mk A220
                    clear A220
                    simp only [Option.some.injEq, Prod.mk.injEq] at H
                    obtain ⟨rfl, rfl⟩ := H
                    go_wp2_with (first | ((with_reducible refine gate_callee (f := 66) rfl ?_); refine goesL_ (some 98) rfl rfl Try.func66 (by kernel_rfl) rfl #[.bool ((Go.bits .and .i64 (Go.bits .or .i64 (a1 / 2) (Go.bits .and .i64 a1 128)) 255) == 0), .bool false, .bool false, .bool ((Go.bits .and .i64 a1 1) == 1)] rfl (by (try simp only [List.map_toArray, List.map_cons, List.map_nil]); first | done | rfl | (simp only [List.length_drop, List.length_take]; rfl)) ?_; (with_reducible refine (impl_flags.calls kj3 ((Go.bits .and .i64 (Go.bits .or .i64 (a1 / 2) (Go.bits .and .i64 a1 128)) 255) == 0) false false ((Go.bits .and .i64 a1 1) == 1) t165 _ A22.out).mono ?_); rintro e w' ⟨rfl, ⟨nd, rfl⟩⟩; refine ⟨_, rfl, ?_⟩))
                    go_ret2
                    exact ⟨by first | rfl | (simp; done) | (simp [*]; done), by repeat (first | exact Drawn0.refl _ | apply Drawn0.step)⟩
                  · rw [if_neg c21] at H
                    have c21b0 : (a0 == 5) = false := beq_eq_false_iff_ne.mpr c21
                    have c21b1 : (a0 != 5) = true := bne_iff_ne.mpr c21
                    by_cases c23 : a0 = 6
                    · rw [if_pos c23] at H
                      have c23b0 : (a0 == 6) = true := beq_iff_eq.mpr c23
                      have c23b1 : (a0 != 6) = false := bne_eq_false_iff_eq.mpr c23
                      clear c23
                      replace H := Option.bind_eq_some_iff.mp H
                      obtain ⟨t166, A240, H⟩ := H
                      replace H : (some (Go.bits .and .i64 (Go.bits .or .i64 (wrap64 (a1 * 16)) (a1 / 16)) 255, t166)) = some (r1, r2) := H
                      have A24 := Aside0.mk A240
                      clear A240
                      simp only [Option.some.injEq, Prod.mk.injEq] at H
                      obtain ⟨rfl, rfl⟩ := H
                      go_wp2_with (first | ((with_reducible refine gate_callee (f := 66) rfl ?_); refine goesL_ (some 98) rfl rfl Try.func66 (by kernel_rfl) rfl #[.bool ((Go.bits .and .i64 (Go.bits .or .i64 (wrap64 (a1 * 16)) (a1 / 16)) 255) == 0), .bool false, .bool false, .bool (0 == 1)] rfl (by (try simp only [List.map_toArray, List.map_cons, List.map_nil]); first | done | rfl | (simp only [List.length_drop, List.length_take]; rfl)) ?_; (with_reducible refine (impl_flags.calls kj3 ((Go.bits .and .i64 (Go.bits .or .i64 (wrap64 (a1 * 16)) (a1 / 16)) 255) == 0) false false (0 == 1) t166 _ A24.out).mono ?_); rintro e w' ⟨rfl, ⟨nd, rfl⟩⟩; refine ⟨_, rfl, ?_⟩))
                      go_ret2
                      exact ⟨by first | rfl | (simp; done) | (simp [*]; done), by repeat (first | exact Drawn0.refl _ | apply Drawn0.step)⟩
                    · rw [if_neg c23] at H
                      have c23b0 : (a0 == 6) = false := beq_eq_false_iff_ne.mpr c23
                      have c23b1 : (a0 != 6) = true := bne_iff_ne.mpr c23
                      by_cases c25 : a0 = 7
                      · rw [if_pos c25] at H
                        have c25b0 : (a0 == 7) = true := beq_iff_eq.mpr c25
                        have c25b1 : (a0 != 7) = false := bne_eq_false_iff_eq.mpr c25
                        clear c25
                        replace H := Option.bind_eq_some_iff.mp H
                        obtain ⟨t167, A260, H⟩ := H
                        replace H : (some (Go.bits .and .i64 (a1 / 2) 255, t167)) = some (r1, r2) := H
                        have A26 := Aside0.mk A260
                        clear A260
                        simp only [Option.some.injEq, Prod.mk.injEq] at H
                        obtain ⟨rfl, rfl⟩ := H
                        go_wp2_with (first | ((with_reducible refine gate_callee (f := 66) rfl ?_); refine goesL_ (some 98) rfl rfl Try.func66 (by kernel_rfl) rfl #[.bool ((Go.bits .and .i64 (a1 / 2) 255) == 0), .bool false, .bool false, .bool ((Go.bits .and .i64 a1 1) == 1)] rfl (by (try simp only [List.map_toArray, List.map_cons, List.map_nil]); first | done | rfl | (simp only [List.length_drop, List.length_take]; rfl)) ?_; (with_reducible refine (impl_flags.calls kj3 ((Go.bits .and .i64 (a1 / 2) 255) == 0) false false ((Go.bits .and .i64 a1 1) == 1) t167 _ A26.out).mono ?_); rintro e w' ⟨rfl, ⟨nd, rfl⟩⟩; refine ⟨_, rfl, ?_⟩))
                        go_ret2
                        exact ⟨by first | rfl | (simp; done) | (simp [*]; done), by repeat (first | exact Drawn0.refl _ | apply Drawn0.step)⟩
                      · rw [if_neg c25] at H
                        have c25b0 : (a0 == 7) = false := beq_eq_false_iff_ne.mpr c25
                        have c25b1 : (a0 != 7) = true := bne_iff_ne.mpr c25
                        replace H := Option.bind_eq_some_iff.mp H
                        obtain ⟨t168, A270, H⟩ := H
                        replace H : (some (Go.bits .and .i64 0 255, t168)) = some (r1, r2) := H
                        have A27 := Aside0.mk A270
                        clear A270
                        simp only [Option.some.injEq, Prod.mk.injEq] at H
                        obtain ⟨rfl, rfl⟩ := H
                        go_wp2_with (first | ((with_reducible refine gate_callee (f := 66) rfl ?_); refine goesL_ (some 98) rfl rfl Try.func66 (by kernel_rfl) rfl #[.bool ((Go.bits .and .i64 0 255) == 0), .bool false, .bool false, .bool (0 == 1)] rfl (by (try simp only [List.map_toArray, List.map_cons, List.map_nil]); first | done | rfl | (simp only [List.length_drop, List.length_take]; rfl)) ?_; (with_reducible refine (impl_flags.calls kj3 ((Go.bits .and .i64 0 255) == 0) false false (0 == 1) t168 _ A27.out).mono ?_); rintro e w' ⟨rfl, ⟨nd, rfl⟩⟩; refine ⟨_, rfl, ?_⟩))
                        go_ret2
                        exact ⟨by first | rfl | (simp; done) | (simp [*]; done), by repeat (first | exact Drawn0.refl _ | apply Drawn0.step)⟩

/-! ### spec_l1In: function 59 -/
def spec_l1In.f (a0 : Int) (a1 : Int) (a2 : Int) : Option (Bool) := if a0 ≥ a1 then (some (decide (a0 ≤ a2))) else (some false)
set_option maxHeartbeats 8000000 in
set_option maxRecDepth 100000 in
theorem spec_l1In.calls (a0 : Int) (a1 : Int) (a2 : Int) (r : Bool) (w : World) (h : spec_l1In.f a0 a1 a2 = some r) :
    Calls Try.prog 59 #[.int .i64 a0, .int .i64 a1, .int .i64 a2] w fun e w' => e = .returned (.bool r) ∧ Drawn0 w w' := by
  have H : (if a0 ≥ a1 then (some (decide (a0 ≤ a2))) else (some false)) = some r := h
  clear h
  by_cases c4 : a0 ≥ a1
  · rw [if_pos c4] at H
    have c4b0 : decide (a1 ≤ a0) = true := decide_eq_true c4
    clear c4
    obtain rfl := Option.some.inj H
    go_enter Try.func59, Try.ntmps59
    go_wp2
    go_ret
    exact ⟨by first | rfl | (simp; done) | (simp [*]; done), by repeat (first | exact Drawn0.refl _ | apply Drawn0.step)⟩
  · rw [if_neg c4] at H
    have c4b0 : decide (a1 ≤ a0) = false := decide_eq_false c4
    clear c4
    obtain rfl := Option.some.inj H
    go_enter Try.func59, Try.ntmps59
    go_wp2
    go_ret
    exact ⟨by first | rfl | (simp; done) | (simp [*]; done), by repeat (first | exact Drawn0.refl _ | apply Drawn0.step)⟩

/-! ### spec_l4Byte: function 67 -/
def spec_l4Byte.f (a0 : Int) : Option (Bool) := (spec_l1In.f a0 0 255).bind fun t169 => (some t169)
set_option maxHeartbeats 8000000 in
set_option maxRecDepth 100000 in
theorem spec_l4Byte.calls (a0 : Int) (r : Bool) (w : World) (h : spec_l4Byte.f a0 = some r) :
    Calls Try.prog 67 #[.int .i64 a0] w fun e w' => e = .returned (.bool r) ∧ Drawn0 w w' := by
  have H : ((spec_l1In.f a0 0 255).bind fun t169 => (some t169)) = some r := h
  clear h
  replace H := Option.bind_eq_some_iff.mp H
  obtain ⟨t169, A20, H⟩ := H
  replace H : (some t169) = some r := H
  have A2 := Aside0.mk A20
  clear A20
  obtain rfl := Option.some.inj H
  go_enter Try.func67, Try.ntmps67
  go_wp2_with (first | ((with_reducible refine gate_callee (f := 59) rfl ?_); refine goesL_ (some 4) rfl rfl Try.func59 (by kernel_rfl) rfl #[.int .i64 a0, .int .i64 0, .int .i64 255] rfl (by (try simp only [List.map_toArray, List.map_cons, List.map_nil]); first | done | rfl | (simp only [List.length_drop, List.length_take]; rfl)) ?_; (with_reducible refine (spec_l1In.calls a0 0 255 t169 _ A2.out).mono ?_); rintro e w' ⟨rfl, ⟨nd, rfl⟩⟩; refine ⟨_, rfl, ?_⟩))
  go_ret
  exact ⟨by first | rfl | (simp; done) | (simp [*]; done), by repeat (first | exact Drawn0.refl _ | apply Drawn0.step)⟩

/-! ### spec_l4Carry: function 68 -/
def spec_l4Carry.f (a0 : Int) : Option (Int) := some (Int.tmod (wrap64 (Int.tdiv a0 16)) 2)
set_option maxHeartbeats 8000000 in
set_option maxRecDepth 100000 in
theorem spec_l4Carry.calls (a0 : Int) (r : Int) (w : World) (h : spec_l4Carry.f a0 = some r) :
    Calls Try.prog 68 #[.int .i64 a0] w fun e w' => e = .returned (.int .i64 r) ∧ Drawn0 w w' := by
  have H : (some (Int.tmod (wrap64 (Int.tdiv a0 16)) 2)) = some r := h
  clear h
  obtain rfl := Option.some.inj H
  go_enter Try.func68, Try.ntmps68
  go_wp2
  go_ret
  exact ⟨by first | rfl | (simp; done) | (simp [*]; done), by repeat (first | exact Drawn0.refl _ | apply Drawn0.step)⟩

/-! ### spec_l3One: function 91 -/
def spec_l3One.f (a0 : Bool) : Option (Int) := if a0 = true then (some 1) else (some 0)
set_option maxHeartbeats 8000000 in
set_option maxRecDepth 100000 in
theorem spec_l3One.calls (a0 : Bool) (r : Int) (w : World) (h : spec_l3One.f a0 = some r) :
    Calls Try.prog 91 #[.bool a0] w fun e w' => e = .returned (.int .i64 r) ∧ Drawn0 w w' := by
  have H : (if a0 = true then (some 1) else (some 0)) = some r := h
  clear h
  by_cases c2 : a0 = true
  · subst c2
    have H1 : (some 1) = some r := by rw [if_pos rfl] at H; exact H
    clear H
    have H := H1
    clear H1
    obtain rfl := Option.some.inj H
    go_enter Try.func91, Try.ntmps91
    go_wp2
    go_ret
    exact ⟨by first | rfl | (simp; done) | (simp [*]; done), by repeat (first | exact Drawn0.refl _ | apply Drawn0.step)⟩
  · replace c2 := Bool.eq_false_iff.mpr c2
    subst c2
    have H1 : (some 0) = some r := by rw [if_neg (show ¬ (false = true) by decide)] at H; exact H
    clear H
    have H := H1
    clear H1
    obtain rfl := Option.some.inj H
    go_enter Try.func91, Try.ntmps91
    go_wp2
    go_ret
    exact ⟨by first | rfl | (simp; done) | (simp [*]; done), by repeat (first | exact Drawn0.refl _ | apply Drawn0.step)⟩

/-! ### spec_l4Flags: function 69 -/
def spec_l4Flags.f (a0 : Bool) (a1 : Bool) (a2 : Bool) (a3 : Bool) : Option (Int) := (spec_l3One.f a0).bind fun t170 => ((spec_l3One.f a1).bind fun t171 => ((spec_l3One.f a2).bind fun t172 => ((spec_l3One.f a3).bind fun t173 => (some (wrap64 ((wrap64 ((wrap64 ((wrap64 (128 * t170)) + (wrap64 (64 * t171)))) + (wrap64 (32 * t172)))) + (wrap64 (16 * t173))))))))
set_option maxHeartbeats 8000000 in
set_option maxRecDepth 100000 in
theorem spec_l4Flags.calls (a0 : Bool) (a1 : Bool) (a2 : Bool) (a3 : Bool) (r : Int) (w : World) (h : spec_l4Flags.f a0 a1 a2 a3 = some r) :
    Calls Try.prog 69 #[.bool a0, .bool a1, .bool a2, .bool a3] w fun e w' => e = .returned (.int .i64 r) ∧ Drawn0 w w' := by
  have H : ((spec_l3One.f a0).bind fun t170 => ((spec_l3One.f a1).bind fun t171 => ((spec_l3One.f a2).bind fun t172 => ((spec_l3One.f a3).bind fun t173 => (some (wrap64 ((wrap64 ((wrap64 ((wrap64 (128 * t170)) + (wrap64 (64 * t171)))) + (wrap64 (32 * t172)))) + (wrap64 (16 * t173))))))))) = some r := h
  clear h
  replace H := Option.bind_eq_some_iff.mp H
  obtain ⟨t170, A50, H⟩ := H
  replace H : ((spec_l3One.f a1).bind fun t171 => ((spec_l3One.f a2).bind fun t172 => ((spec_l3One.f a3).bind fun t173 => (some (wrap64 ((wrap64 ((wrap64 ((wrap64 (128 * t170)) + (wrap64 (64 * t171)))) + (wrap64 (32 * t172)))) + (wrap64 (16 * t173)))))))) = some r := H
  have A5 := Aside0.mk A50
  clear A50
  replace H := Option.bind_eq_some_iff.mp H
  obtain ⟨t171, A60, H⟩ := H
  replace H : ((spec_l3One.f a2).bind fun t172 => ((spec_l3One.f a3).bind fun t173 => (some (wrap64 ((wrap64 ((wrap64 ((wrap64 (128 * t170)) + (wrap64 (64 * t171)))) + (wrap64 (32 * t172)))) + (wrap64 (16 * t173))))))) = some r := H
  have A6 := Aside0.mk A60
  clear A60
  replace H := Option.bind_eq_some_iff.mp H
  obtain ⟨t172, A70, H⟩ := H
  replace H : ((spec_l3One.f a3).bind fun t173 => (some (wrap64 ((wrap64 ((wrap64 ((wrap64 (128 * t170)) + (wrap64 (64 * t171)))) + (wrap64 (32 * t172)))) + (wrap64 (16 * t173)))))) = some r := H
  have A7 := Aside0.mk A70
  clear A70
  replace H := Option.bind_eq_some_iff.mp H
  obtain ⟨t173, A80, H⟩ := H
  replace H : (some (wrap64 ((wrap64 ((wrap64 ((wrap64 (128 * t170)) + (wrap64 (64 * t171)))) + (wrap64 (32 * t172)))) + (wrap64 (16 * t173))))) = some r := H
  have A8 := Aside0.mk A80
  clear A80
  obtain rfl := Option.some.inj H
  go_enter Try.func69, Try.ntmps69
  go_wp2_with (first | ((with_reducible refine gate_callee (f := 91) rfl ?_); refine goesL_ (some 10) rfl rfl Try.func91 (by kernel_rfl) rfl #[.bool a0] rfl (by (try simp only [List.map_toArray, List.map_cons, List.map_nil]); first | done | rfl | (simp only [List.length_drop, List.length_take]; rfl)) ?_; (with_reducible refine (spec_l3One.calls a0 t170 _ A5.out).mono ?_); rintro e w' ⟨rfl, ⟨nd, rfl⟩⟩; refine ⟨_, rfl, ?_⟩) | ((with_reducible refine gate_callee (f := 91) rfl ?_); refine goesL_ (some 13) rfl rfl Try.func91 (by kernel_rfl) rfl #[.bool a1] rfl (by (try simp only [List.map_toArray, List.map_cons, List.map_nil]); first | done | rfl | (simp only [List.length_drop, List.length_take]; rfl)) ?_; (with_reducible refine (spec_l3One.calls a1 t171 _ A6.out).mono ?_); rintro e w' ⟨rfl, ⟨nd, rfl⟩⟩; refine ⟨_, rfl, ?_⟩) | ((with_reducible refine gate_callee (f := 91) rfl ?_); refine goesL_ (some 17) rfl rfl Try.func91 (by kernel_rfl) rfl #[.bool a2] rfl (by (try simp only [List.map_toArray, List.map_cons, List.map_nil]); first | done | rfl | (simp only [List.length_drop, List.length_take]; rfl)) ?_; (with_reducible refine (spec_l3One.calls a2 t172 _ A7.out).mono ?_); rintro e w' ⟨rfl, ⟨nd, rfl⟩⟩; refine ⟨_, rfl, ?_⟩) | ((with_reducible refine gate_callee (f := 91) rfl ?_); refine goesL_ (some 21) rfl rfl Try.func91 (by kernel_rfl) rfl #[.bool a3] rfl (by (try simp only [List.map_toArray, List.map_cons, List.map_nil]); first | done | rfl | (simp only [List.length_drop, List.length_take]; rfl)) ?_; (with_reducible refine (spec_l3One.calls a3 t173 _ A8.out).mono ?_); rintro e w' ⟨rfl, ⟨nd, rfl⟩⟩; refine ⟨_, rfl, ?_⟩))
  go_ret
  exact ⟨by first | rfl | (simp; done) | (simp [*]; done), by repeat (first | exact Drawn0.refl _ | apply Drawn0.step)⟩

/-! ### spec_l4Turned: function 79 -/
def spec_l4Turned.f (a0 : Int) (a1 : Int) (a2 : Int) : Option (Int × Int) := if a0 = 0 then ((spec_l4Flags.f ((wrap64 ((Int.tmod (wrap64 (2 * a1)) 256) + (wrap64 (Int.tdiv a1 128)))) == 0) false false ((wrap64 (Int.tdiv a1 128)) == 1)).bind fun t174 => (some (wrap64 ((Int.tmod (wrap64 (2 * a1)) 256) + (wrap64 (Int.tdiv a1 128))), t174))) else (if a0 = 1 then ((spec_l4Flags.f ((wrap64 ((wrap64 (Int.tdiv a1 2)) + (wrap64 (128 * (Int.tmod a1 2))))) == 0) false false ((Int.tmod a1 2) == 1)).bind fun t175 => (some (wrap64 ((wrap64 (Int.tdiv a1 2)) + (wrap64 (128 * (Int.tmod a1 2)))), t175))) else (if a0 = 2 then ((spec_l4Carry.f a2).bind fun t176 => ((spec_l4Flags.f ((wrap64 ((Int.tmod (wrap64 (2 * a1)) 256) + t176)) == 0) false false ((wrap64 (Int.tdiv a1 128)) == 1)).bind fun t177 => (some (wrap64 ((Int.tmod (wrap64 (2 * a1)) 256) + t176), t177)))) else (if a0 = 3 then ((spec_l4Carry.f a2).bind fun t178 => ((spec_l4Flags.f ((wrap64 ((wrap64 (Int.tdiv a1 2)) + (wrap64 (128 * t178)))) == 0) false false ((Int.tmod a1 2) == 1)).bind fun t179 => (some (wrap64 ((wrap64 (Int.tdiv a1 2)) + (wrap64 (128 * t178))), t179)))) else (if a0 = 4 then ((spec_l4Flags.f ((Int.tmod (wrap64 (2 * a1)) 256) == 0) false false ((wrap64 (Int.tdiv a1 128)) == 1)).bind fun t180 => (some (Int.tmod (wrap64 (2 * a1)) 256, t180))) else (if a0 = 5 then ((spec_l4Flags.f ((wrap64 ((wrap64 (Int.tdiv a1 2)) + (wrap64 ((wrap64 (Int.tdiv a1 128)) * 128)))) == 0) false false ((Int.tmod a1 2) == 1)).bind fun t181 => (some (wrap64 ((wrap64 (Int.tdiv a1 2)) + (wrap64 ((wrap64 (Int.tdiv a1 128)) * 128))), t181))) else (if a0 = 6 then ((spec_l4Flags.f ((wrap64 ((wrap64 ((Int.tmod a1 16) * 16)) + (wrap64 (Int.tdiv a1 16)))) == 0) false false (0 == 1)).bind fun t182 => (some (wrap64 ((wrap64 ((Int.tmod a1 16) * 16)) + (wrap64 (Int.tdiv a1 16))), t182))) else ((spec_l4Flags.f ((wrap64 (Int.tdiv a1 2)) == 0) false false ((Int.tmod a1 2) == 1)).bind fun t183 => (some (wrap64 (Int.tdiv a1 2), t183)))))))))
set_option maxHeartbeats 8000000 in
set_option maxRecDepth 100000 in
theorem spec_l4Turned.calls (a0 : Int) (a1 : Int) (a2 : Int) (r1 : Int) (r2 : Int) (w : World) (h : spec_l4Turned.f a0 a1 a2 = some (r1, r2)) :
    Calls Try.prog 79 #[.int .i64 a0, .int .i64 a1, .int .i64 a2] w fun e w' => e = .returned (.tuple #[.int .i64 r1, .int .i64 r2]) ∧ Drawn0 w w' := by
  have H : (if a0 = 0 then ((spec_l4Flags.f ((wrap64 ((Int.tmod (wrap64 (2 * a1)) 256) + (wrap64 (Int.tdiv a1 128)))) == 0) false false ((wrap64 (Int.tdiv a1 128)) == 1)).bind fun t174 => (some (wrap64 ((Int.tmod (wrap64 (2 * a1)) 256) + (wrap64 (Int.tdiv a1 128))), t174))) else (if a0 = 1 then ((spec_l4Flags.f ((wrap64 ((wrap64 (Int.tdiv a1 2)) + (wrap64 (128 * (Int.tmod a1 2))))) == 0) false false ((Int.tmod a1 2) == 1)).bind fun t175 => (some (wrap64 ((wrap64 (Int.tdiv a1 2)) + (wrap64 (128 * (Int.tmod a1 2)))), t175))) else (if a0 = 2 then ((spec_l4Carry.f a2).bind fun t176 => ((spec_l4Flags.f ((wrap64 ((Int.tmod (wrap64 (2 * a1)) 256) + t176)) == 0) false false ((wrap64 (Int.tdiv a1 128)) == 1)).bind fun t177 => (some (wrap64 ((Int.tmod (wrap64 (2 * a1)) 256) + t176), t177)))) else (if a0 = 3 then ((spec_l4Carry.f a2).bind fun t178 => ((spec_l4Flags.f ((wrap64 ((wrap64 (Int.tdiv a1 2)) + (wrap64 (128 * t178)))) == 0) false false ((Int.tmod a1 2) == 1)).bind fun t179 => (some (wrap64 ((wrap64 (Int.tdiv a1 2)) + (wrap64 (128 * t178))), t179)))) else (if a0 = 4 then ((spec_l4Flags.f ((Int.tmod (wrap64 (2 * a1)) 256) == 0) false false ((wrap64 (Int.tdiv a1 128)) == 1)).bind fun t180 => (some (Int.tmod (wrap64 (2 * a1)) 256, t180))) else (if a0 = 5 then ((spec_l4Flags.f ((wrap64 ((wrap64 (Int.tdiv a1 2)) + (wrap64 ((wrap64 (Int.tdiv a1 128)) * 128)))) == 0) false false ((Int.tmod a1 2) == 1)).bind fun t181 => (some (wrap64 ((wrap64 (Int.tdiv a1 2)) + (wrap64 ((wrap64 (Int.tdiv a1 128)) * 128))), t181))) else (if a0 = 6 then ((spec_l4Flags.f ((wrap64 ((wrap64 ((Int.tmod a1 16) * 16)) + (wrap64 (Int.tdiv a1 16)))) == 0) false false (0 == 1)).bind fun t182 => (some (wrap64 ((wrap64 ((Int.tmod a1 16) * 16)) + (wrap64 (Int.tdiv a1 16))), t182))) else ((spec_l4Flags.f ((wrap64 (Int.tdiv a1 2)) == 0) false false ((Int.tmod a1 2) == 1)).bind fun t183 => (some (wrap64 (Int.tdiv a1 2), t183)))))))))) = some (r1, r2) := h
  clear h
  by_cases c4 : a0 = 0
  · rw [if_pos c4] at H
    have c4b0 : (a0 == 0) = true := beq_iff_eq.mpr c4
    have c4b1 : (a0 != 0) = false := bne_eq_false_iff_eq.mpr c4
    clear c4
    replace H := Option.bind_eq_some_iff.mp H
    obtain ⟨t174, A50, H⟩ := H
    replace H : (some (wrap64 ((Int.tmod (wrap64 (2 * a1)) 256) + (wrap64 (Int.tdiv a1 128))), t174)) = some (r1, r2) := H
    have A5 := Aside0.mk A50
    clear A50
    simp only [Option.some.injEq, Prod.mk.injEq] at H
    obtain ⟨rfl, rfl⟩ := H
    go_enter Try.func79, Try.ntmps79
    go_wp2_with (first | ((with_reducible refine gate_callee (f := 69) rfl ?_); refine goesL_ (some 79) rfl rfl Try.func69 (by kernel_rfl) rfl #[.bool ((wrap64 ((Int.tmod (wrap64 (2 * a1)) 256) + (wrap64 (Int.tdiv a1 128)))) == 0), .bool false, .bool false, .bool ((wrap64 (Int.tdiv a1 128)) == 1)] rfl (by (try simp only [List.map_toArray, List.map_cons, List.map_nil]); first | done | rfl | (simp only [List.length_drop, List.length_take]; rfl)) ?_; (with_reducible refine (spec_l4Flags.calls ((wrap64 ((Int.tmod (wrap64 (2 * a1)) 256) + (wrap64 (Int.tdiv a1 128)))) == 0) false false ((wrap64 (Int.tdiv a1 128)) == 1) t174 _ A5.out).mono ?_); rintro e w' ⟨rfl, ⟨nd, rfl⟩⟩; refine ⟨_, rfl, ?_⟩))
    go_ret2
    exact ⟨by first | rfl | (simp; done) | (simp [*]; done), by repeat (first | exact Drawn0.refl _ | apply Drawn0.step)⟩
  · rw [if_neg c4] at H
    have c4b0 : (a0 == 0) = false := beq_eq_false_iff_ne.mpr c4
    have c4b1 : (a0 != 0) = true := bne_iff_ne.mpr c4
    by_cases c6 : a0 = 1
    · rw [if_pos c6] at H
      have c6b0 : (a0 == 1) = true := beq_iff_eq.mpr c6
      have c6b1 : (a0 != 1) = false := bne_eq_false_iff_eq.mpr c6
      clear c6
      replace H := Option.bind_eq_some_iff.mp H
      obtain ⟨t175, A70, H⟩ := H
      replace H : (some (wrap64 ((wrap64 (Int.tdiv a1 2)) + (wrap64 (128 * (Int.tmod a1 2)))), t175)) = some (r1, r2) := H
      have A7 := Aside0.mk A70
      clear A70
      simp only [Option.some.injEq, Prod.mk.injEq] at H
      obtain ⟨rfl, rfl⟩ := H
      go_enter Try.func79, Try.ntmps79
      go_wp2_with (first | ((with_reducible refine gate_callee (f := 69) rfl ?_); refine goesL_ (some 79) rfl rfl Try.func69 (by kernel_rfl) rfl #[.bool ((wrap64 ((wrap64 (Int.tdiv a1 2)) + (wrap64 (128 * (Int.tmod a1 2))))) == 0), .bool false, .bool false, .bool ((Int.tmod a1 2) == 1)] rfl (by (try simp only [List.map_toArray, List.map_cons, List.map_nil]); first | done | rfl | (simp only [List.length_drop, List.length_take]; rfl)) ?_; (with_reducible refine (spec_l4Flags.calls ((wrap64 ((wrap64 (Int.tdiv a1 2)) + (wrap64 (128 * (Int.tmod a1 2))))) == 0) false false ((Int.tmod a1 2) == 1) t175 _ A7.out).mono ?_); rintro e w' ⟨rfl, ⟨nd, rfl⟩⟩; refine ⟨_, rfl, ?_⟩))
      go_ret2
      exact ⟨by first | rfl | (simp; done) | (simp [*]; done), by repeat (first | exact Drawn0.refl _ | apply Drawn0.step)⟩
    · rw [if_neg c6] at H
      have c6b0 : (a0 == 1) = false := beq_eq_false_iff_ne.mpr c6
      have c6b1 : (a0 != 1) = true := bne_iff_ne.mpr c6
      by_cases c8 : a0 = 2
      · rw [if_pos c8] at H
        have c8b0 : (a0 == 2) = true := beq_iff_eq.mpr c8
        have c8b1 : (a0 != 2) = false := bne_eq_false_iff_eq.mpr c8
        clear c8
        replace H := Option.bind_eq_some_iff.mp H
        obtain ⟨t176, A90, H⟩ := H
        replace H : ((spec_l4Flags.f ((wrap64 ((Int.tmod (wrap64 (2 * a1)) 256) + t176)) == 0) false false ((wrap64 (Int.tdiv a1 128)) == 1)).bind fun t177 => (some (wrap64 ((Int.tmod (wrap64 (2 * a1)) 256) + t176), t177))) = some (r1, r2) := H
        have A9 := Aside0.mk A90
        clear A90
        replace H := Option.bind_eq_some_iff.mp H
        obtain ⟨t177, A100, H⟩ := H
        replace H : (some (wrap64 ((Int.tmod (wrap64 (2 * a1)) 256) + t176), t177)) = some (r1, r2) := H
        have A10 := Aside0.mk A100
        clear A100
        simp only [Option.some.injEq, Prod.mk.injEq] at H
        obtain ⟨rfl, rfl⟩ := H
        go_enter Try.func79, Try.ntmps79
        go_wp2_with (first | ((with_reducible refine gate_callee (f := 68) rfl ?_); refine goesL_ (some 39) rfl rfl Try.func68 (by kernel_rfl) rfl #[.int .i64 a2] rfl (by (try simp only [List.map_toArray, List.map_cons, List.map_nil]); first | done | rfl | (simp only [List.length_drop, List.length_take]; rfl)) ?_; (with_reducible refine (spec_l4Carry.calls a2 t176 _ A9.out).mono ?_); rintro e w' ⟨rfl, ⟨nd, rfl⟩⟩; refine ⟨_, rfl, ?_⟩) | ((with_reducible refine gate_callee (f := 69) rfl ?_); refine goesL_ (some 79) rfl rfl Try.func69 (by kernel_rfl) rfl #[.bool ((wrap64 ((Int.tmod (wrap64 (2 * a1)) 256) + t176)) == 0), .bool false, .bool false, .bool ((wrap64 (Int.tdiv a1 128)) == 1)] rfl (by (try simp only [List.map_toArray, List.map_cons, List.map_nil]); first | done | rfl | (simp only [List.length_drop, List.length_take]; rfl)) ?_; (with_reducible refine (spec_l4Flags.calls ((wrap64 ((Int.tmod (wrap64 (2 * a1)) 256) + t176)) == 0) false false ((wrap64 (Int.tdiv a1 128)) == 1) t177 _ A10.out).mono ?_); rintro e w' ⟨rfl, ⟨nd, rfl⟩⟩; refine ⟨_, rfl, ?_⟩))
        go_ret2
        exact ⟨by first | rfl | (simp; done) | (simp [*]; done), by repeat (first | exact Drawn0.refl _ | apply Drawn0.step)⟩
      · rw [if_neg c8] at H
        have c8b0 : (a0 == 2) = false := beq_eq_false_iff_ne.mpr c8
        have c8b1 : (a0 != 2) = true := bne_iff_ne.mpr c8
        by_cases c11 : a0 = 3
        · rw [if_pos c11] at H
          have c11b0 : (a0 == 3) = true := beq_iff_eq.mpr c11
          have c11b1 : (a0 != 3) = false := bne_eq_false_iff_eq.mpr c11
          clear c11
          replace H := Option.bind_eq_some_iff.mp H
          obtain ⟨t178, A120, H⟩ := H
          replace H : ((spec_l4Flags.f ((wrap64 ((wrap64 (Int.tdiv a1 2)) + (wrap64 (128 * t178)))) == 0) false false ((Int.tmod a1 2) == 1)).bind fun t179 => (some (wrap64 ((wrap64 (Int.tdiv a1 2)) + (wrap64 (128 * t178))), t179))) = some (r1, r2) := H
          have A12 := Aside0.mk A120
          clear A120
          replace H := Option.bind_eq_some_iff.mp H
          obtain ⟨t179, A130, H⟩ := H
          replace H : (some (wrap64 ((wrap64 (Int.tdiv a1 2)) + (wrap64 (128 * t178))), t179)) = some (r1, r2) := H
          have A13 := Aside0.mk A130
          clear A130
          simp only [Option.some.injEq, Prod.mk.injEq] at H
          obtain ⟨rfl, rfl⟩ := H
          go_enter Try.func79, Try.ntmps79
          go_wp2_with (first | ((with_reducible refine gate_callee (f := 68) rfl ?_); refine goesL_ (some 48) rfl rfl Try.func68 (by kernel_rfl) rfl #[.int .i64 a2] rfl (by (try simp only [List.map_toArray, List.map_cons, List.map_nil]); first | done | rfl | (simp only [List.length_drop, List.length_take]; rfl)) ?_; (with_reducible refine (spec_l4Carry.calls a2 t178 _ A12.out).mono ?_); rintro e w' ⟨rfl, ⟨nd, rfl⟩⟩; refine ⟨_, rfl, ?_⟩) | ((with_reducible refine gate_callee (f := 69) rfl ?_); refine goesL_ (some 79) rfl rfl Try.func69 (by kernel_rfl) rfl #[.bool ((wrap64 ((wrap64 (Int.tdiv a1 2)) + (wrap64 (128 * t178)))) == 0), .bool false, .bool false, .bool ((Int.tmod a1 2) == 1)] rfl (by (try simp only [List.map_toArray, List.map_cons, List.map_nil]); first | done | rfl | (simp only [List.length_drop, List.length_take]; rfl)) ?_; (with_reducible refine (spec_l4Flags.calls ((wrap64 ((wrap64 (Int.tdiv a1 2)) + (wrap64 (128 * t178)))) == 0) false false ((Int.tmod a1 2) == 1) t179 _ A13.out).mono ?_); rintro e w' ⟨rfl, ⟨nd, rfl⟩⟩; refine ⟨_, rfl, ?_⟩))
          go_ret2
          exact ⟨by first | rfl | (simp; done) | (simp [*]; done), by repeat (first | exact Drawn0.refl _ | apply Drawn0.step)⟩
        · rw [if_neg c11] at H
          have c11b0 : (a0 == 3) = false := beq_eq_false_iff_ne.mpr c11
          have c11b1 : (a0 != 3) = true := bne_iff_ne.mpr c11
          by_cases c14 : a0 = 4
          · rw [if_pos c14] at H
            have c14b0 : (a0 == 4) = true := beq_iff_eq.mpr c14
            have c14b1 : (a0 != 4) = false := bne_eq_false_iff_eq.mpr c14
            clear c14
            replace H := Option.bind_eq_some_iff.mp H
            obtain ⟨t180, A150, H⟩ := H
            replace H : (some (Int.tmod (wrap64 (2 * a1)) 256, t180)) = some (r1, r2) := H
            have A15 := Aside0.mk A150
            clear A150
            simp only [Option.some.injEq, Prod.mk.injEq] at H
            obtain ⟨rfl, rfl⟩ := H
            go_enter Try.func79, Try.ntmps79
            go_wp2_with (first | ((with_reducible refine gate_callee (f := 69) rfl ?_); refine goesL_ (some 79) rfl rfl Try.func69 (by kernel_rfl) rfl #[.bool ((Int.tmod (wrap64 (2 * a1)) 256) == 0), .bool false, .bool false, .bool ((wrap64 (Int.tdiv a1 128)) == 1)] rfl (by (try simp only [List.map_toArray, List.map_cons, List.map_nil]); first | done | rfl | (simp only [List.length_drop, List.length_take]; rfl)) ?_; (with_reducible refine (spec_l4Flags.calls ((Int.tmod (wrap64 (2 * a1)) 256) == 0) false false ((wrap64 (Int.tdiv a1 128)) == 1) t180 _ A15.out).mono ?_); rintro e w' ⟨rfl, ⟨nd, rfl⟩⟩; refine ⟨_, rfl, ?_⟩))
            go_ret2
            exact ⟨by first | rfl | (simp; done) | (simp [*]; done), by repeat (first | exact Drawn0.refl _ | apply Drawn0.step)⟩
          · rw [if_neg c14] at H
            have c14b0 : (a0 == 4) = false := beq_eq_false_iff_ne.mpr c14
            have c14b1 : (a0 != 4) = true := bne_iff_ne.mpr c14
            by_cases c16 : a0 = 5
            · rw [if_pos c16] at H
              have c16b0 : (a0 == 5) = true := beq_iff_eq.mpr c16
              have c16b1 : (a0 != 5) = false := bne_eq_false_iff_eq.mpr c16
              clear c16
              replace H := Option.bind_eq_some_iff.mp H
              obtain ⟨t181, A170, H⟩ := H
              replace H : (some (wrap64 ((wrap64 (Int.tdiv a1 2)) + (wrap64 ((wrap64 (Int.tdiv a1 128)) * 128))), t181)) = some (r1, r2) := H
              have A17 := Aside0.mk A170
              clear A170
              simp only [Option.some.injEq, Prod.mk.injEq] at H
              obtain ⟨rfl, rfl⟩ := H
              go_enter Try.func79, Try.ntmps79
              go_wp2_with (first | ((with_reducible refine gate_callee (f := 69) rfl ?_); refine goesL_ (some 79) rfl rfl Try.func69 (by kernel_rfl) rfl #[.bool ((wrap64 ((wrap64 (Int.tdiv a1 2)) + (wrap64 ((wrap64 (Int.tdiv a1 128)) * 128)))) == 0), .bool false, .bool false, .bool ((Int.tmod a1 2) == 1)] rfl (by (try simp only [List.map_toArray, List.map_cons, List.map_nil]); first | done | rfl | (simp only [List.length_drop, List.length_take]; rfl)) ?_; (with_reducible refine (spec_l4Flags.calls ((wrap64 ((wrap64 (Int.tdiv a1 2)) + (wrap64 ((wrap64 (Int.tdiv a1 128)) * 128)))) == 0) false false ((Int.tmod a1 2) == 1) t181 _ A17.out).mono ?_); rintro e w' ⟨rfl, ⟨nd, rfl⟩⟩; refine ⟨_, rfl, ?_⟩))
              go_ret2
              exact ⟨by first | rfl | (simp; done) | (simp [*]; done), by repeat (first | exact Drawn0.refl _ | apply Drawn0.step)⟩
            · rw [if_neg c16] at H
              have c16b0 : (a0 == 5) = false := beq_eq_false_iff_ne.mpr c16
              have c16b1 : (a0 != 5) = true := bne_iff_ne.mpr c16
              by_cases c18 : a0 = 6
              · rw [if_pos c18] at H
                have c18b0 : (a0 == 6) = true := beq_iff_eq.mpr c18
                have c18b1 : (a0 != 6) = false := bne_eq_false_iff_eq.mpr c18
                clear c18
                replace H := Option.bind_eq_some_iff.mp H
                obtain ⟨t182, A190, H⟩ := H
                replace H : (some (wrap64 ((wrap64 ((Int.tmod a1 16) * 16)) + (wrap64 (Int.tdiv a1 16))), t182)) = some (r1, r2) := H
                have A19 := Aside0.mk A190
                clear A190
                simp only [Option.some.injEq, Prod.mk.injEq] at H
                obtain ⟨rfl, rfl⟩ := H
                go_enter Try.func79, Try.ntmps79
                go_wp2_with (first | ((with_reducible refine gate_callee (f := 69) rfl ?_); refine goesL_ (some 79) rfl rfl Try.func69 (by kernel_rfl) rfl #[.bool ((wrap64 ((wrap64 ((Int.tmod a1 16) * 16)) + (wrap64 (Int.tdiv a1 16)))) == 0), .bool false, .bool false, .bool (0 == 1)] rfl (by (try simp only [List.map_toArray, List.map_cons, List.map_nil]); first | done | rfl | (simp only [List.length_drop, List.length_take]; rfl)) ?_; (with_reducible refine (spec_l4Flags.calls ((wrap64 ((wrap64 ((Int.tmod a1 16) * 16)) + (wrap64 (Int.tdiv a1 16)))) == 0) false false (0 == 1) t182 _ A19.out).mono ?_); rintro e w' ⟨rfl, ⟨nd, rfl⟩⟩; refine ⟨_, rfl, ?_⟩))
                go_ret2
                exact ⟨by first | rfl | (simp; done) | (simp [*]; done), by repeat (first | exact Drawn0.refl _ | apply Drawn0.step)⟩
              · rw [if_neg c18] at H
                have c18b0 : (a0 == 6) = false := beq_eq_false_iff_ne.mpr c18
                have c18b1 : (a0 != 6) = true := bne_iff_ne.mpr c18
                replace H := Option.bind_eq_some_iff.mp H
                obtain ⟨t183, A200, H⟩ := H
                replace H : (some (wrap64 (Int.tdiv a1 2), t183)) = some (r1, r2) := H
                have A20 := Aside0.mk A200
                clear A200
                simp only [Option.some.injEq, Prod.mk.injEq] at H
                obtain ⟨rfl, rfl⟩ := H
                go_enter Try.func79, Try.ntmps79
                go_wp2_with (first | ((with_reducible refine gate_callee (f := 69) rfl ?_); refine goesL_ (some 79) rfl rfl Try.func69 (by kernel_rfl) rfl #[.bool ((wrap64 (Int.tdiv a1 2)) == 0), .bool false, .bool false, .bool ((Int.tmod a1 2) == 1)] rfl (by (try simp only [List.map_toArray, List.map_cons, List.map_nil]); first | done | rfl | (simp only [List.length_drop, List.length_take]; rfl)) ?_; (with_reducible refine (spec_l4Flags.calls ((wrap64 (Int.tdiv a1 2)) == 0) false false ((Int.tmod a1 2) == 1) t183 _ A20.out).mono ?_); rintro e w' ⟨rfl, ⟨nd, rfl⟩⟩; refine ⟨_, rfl, ?_⟩))
                go_ret2
                exact ⟨by first | rfl | (simp; done) | (simp [*]; done), by repeat (first | exact Drawn0.refl _ | apply Drawn0.step)⟩

/-! ### spec_Turned: function 40 -/
def spec_Turned.f (a0 : Int) (a1 : Int) (a2 : Int) : Option (Int × Int) := (spec_l1In.f a0 0 7).bind fun t184 => (if t184 = true then ((spec_l4Byte.f a1).bind fun t185 => (if t185 = true then ((spec_l4Byte.f a2).bind fun t186 => (if t186 = true then ((spec_l4Turned.f a0 a1 a2).bind fun bt187 => (some (bt187.1, bt187.2))) else (some (0, 0)))) else (some (0, 0)))) else (some (0, 0)))
set_option maxHeartbeats 8000000 in
set_option maxRecDepth 100000 in
theorem spec_Turned.calls (a0 : Int) (a1 : Int) (a2 : Int) (r1 : Int) (r2 : Int) (w : World) (h : spec_Turned.f a0 a1 a2 = some (r1, r2)) :
    Calls Try.prog 40 #[.int .i64 a0, .int .i64 a1, .int .i64 a2] w fun e w' => e = .returned (.tuple #[.int .i64 r1, .int .i64 r2]) ∧ Drawn0 w w' := by
  have H : ((spec_l1In.f a0 0 7).bind fun t184 => (if t184 = true then ((spec_l4Byte.f a1).bind fun t185 => (if t185 = true then ((spec_l4Byte.f a2).bind fun t186 => (if t186 = true then ((spec_l4Turned.f a0 a1 a2).bind fun bt187 => (some (bt187.1, bt187.2))) else (some (0, 0)))) else (some (0, 0)))) else (some (0, 0)))) = some (r1, r2) := h
  clear h
  replace H := Option.bind_eq_some_iff.mp H
  obtain ⟨t184, A40, H⟩ := H
  replace H : (if t184 = true then ((spec_l4Byte.f a1).bind fun t185 => (if t185 = true then ((spec_l4Byte.f a2).bind fun t186 => (if t186 = true then ((spec_l4Turned.f a0 a1 a2).bind fun bt187 => (some (bt187.1, bt187.2))) else (some (0, 0)))) else (some (0, 0)))) else (some (0, 0))) = some (r1, r2) := H
  have A4 := Aside0.mk A40
  clear A40
  by_cases c5 : t184 = true
  · subst c5
    have H1 : ((spec_l4Byte.f a1).bind fun t185 => (if t185 = true then ((spec_l4Byte.f a2).bind fun t186 => (if t186 = true then ((spec_l4Turned.f a0 a1 a2).bind fun bt187 => (some (bt187.1, bt187.2))) else (some (0, 0)))) else (some (0, 0)))) = some (r1, r2) := by rw [if_pos rfl] at H; exact H
    clear H
    have H := H1
    clear H1
    replace H := Option.bind_eq_some_iff.mp H
    obtain ⟨t185, A60, H⟩ := H
    replace H : (if t185 = true then ((spec_l4Byte.f a2).bind fun t186 => (if t186 = true then ((spec_l4Turned.f a0 a1 a2).bind fun bt187 => (some (bt187.1, bt187.2))) else (some (0, 0)))) else (some (0, 0))) = some (r1, r2) := H
    have A6 := Aside0.mk A60
    clear A60
    by_cases c7 : t185 = true
    · subst c7
      have H1 : ((spec_l4Byte.f a2).bind fun t186 => (if t186 = true then ((spec_l4Turned.f a0 a1 a2).bind fun bt187 => (some (bt187.1, bt187.2))) else (some (0, 0)))) = some (r1, r2) := by rw [if_pos rfl] at H; exact H
      clear H
      have H := H1
      clear H1
      replace H := Option.bind_eq_some_iff.mp H
      obtain ⟨t186, A80, H⟩ := H
      replace H : (if t186 = true then ((spec_l4Turned.f a0 a1 a2).bind fun bt187 => (some (bt187.1, bt187.2))) else (some (0, 0))) = some (r1, r2) := H
      have A8 := Aside0.mk A80
      clear A80
      by_cases c9 : t186 = true
      · subst c9
        have H1 : ((spec_l4Turned.f a0 a1 a2).bind fun bt187 => (some (bt187.1, bt187.2))) = some (r1, r2) := by rw [if_pos rfl] at H; exact H
        clear H
        have H := H1
        clear H1
        replace H := Option.bind_eq_some_iff.mp H
        obtain ⟨⟨t187, t188⟩, A100, H⟩ := H
        replace H : (some (t187, t188)) = some (r1, r2) := H
        have A10 := Aside0.mk A100
        clear A100
        simp only [Option.some.injEq, Prod.mk.injEq] at H
        obtain ⟨rfl, rfl⟩ := H
        go_enter Try.func40, Try.ntmps40
        go_wp2_with (first | ((with_reducible refine gate_callee (f := 59) rfl ?_); refine goesL_ (some 9) rfl rfl Try.func59 (by kernel_rfl) rfl #[.int .i64 a0, .int .i64 0, .int .i64 7] rfl (by (try simp only [List.map_toArray, List.map_cons, List.map_nil]); first | done | rfl | (simp only [List.length_drop, List.length_take]; rfl)) ?_; (with_reducible refine (spec_l1In.calls a0 0 7 true _ A4.out).mono ?_); rintro e w' ⟨rfl, ⟨nd, rfl⟩⟩; refine ⟨_, rfl, ?_⟩) | (go_at_call 67; (with_reducible refine (spec_l4Byte.calls a1 true _ A6.out).mono ?_); rintro e w' ⟨rfl, ⟨nd, rfl⟩⟩) | (go_at_call 67; (with_reducible refine (spec_l4Byte.calls a2 true _ A8.out).mono ?_); rintro e w' ⟨rfl, ⟨nd, rfl⟩⟩) | ((with_reducible refine gate_callee (f := 79) rfl ?_); refine goesL_ (some 24) rfl rfl Try.func79 (by kernel_rfl) rfl #[.int .i64 a0, .int .i64 a1, .int .i64 a2] rfl (by (try simp only [List.map_toArray, List.map_cons, List.map_nil]); first | done | rfl | (simp only [List.length_drop, List.length_take]; rfl)) ?_; (with_reducible refine (spec_l4Turned.calls a0 a1 a2 t187 t188 _ A10.out).mono ?_); rintro e w' ⟨rfl, ⟨nd, rfl⟩⟩; refine ⟨_, rfl, ?_⟩))
        go_ret2
        exact ⟨by first | rfl | (simp; done) | (simp [*]; done), by repeat (first | exact Drawn0.refl _ | apply Drawn0.step)⟩
      · replace c9 := Bool.eq_false_iff.mpr c9
        subst c9
        have H1 : (some (0, 0)) = some (r1, r2) := by rw [if_neg (show ¬ (false = true) by decide)] at H; exact H
        clear H
        have H := H1
        clear H1
        simp only [Option.some.injEq, Prod.mk.injEq] at H
        obtain ⟨rfl, rfl⟩ := H
        go_enter Try.func40, Try.ntmps40
        go_wp2_with (first | ((with_reducible refine gate_callee (f := 59) rfl ?_); refine goesL_ (some 9) rfl rfl Try.func59 (by kernel_rfl) rfl #[.int .i64 a0, .int .i64 0, .int .i64 7] rfl (by (try simp only [List.map_toArray, List.map_cons, List.map_nil]); first | done | rfl | (simp only [List.length_drop, List.length_take]; rfl)) ?_; (with_reducible refine (spec_l1In.calls a0 0 7 true _ A4.out).mono ?_); rintro e w' ⟨rfl, ⟨nd, rfl⟩⟩; refine ⟨_, rfl, ?_⟩) | (go_at_call 67; (with_reducible refine (spec_l4Byte.calls a1 true _ A6.out).mono ?_); rintro e w' ⟨rfl, ⟨nd, rfl⟩⟩) | (go_at_call 67; (with_reducible refine (spec_l4Byte.calls a2 false _ A8.out).mono ?_); rintro e w' ⟨rfl, ⟨nd, rfl⟩⟩))
        go_ret2
        exact ⟨by first | rfl | (simp; done) | (simp [*]; done), by repeat (first | exact Drawn0.refl _ | apply Drawn0.step)⟩
    · replace c7 := Bool.eq_false_iff.mpr c7
      subst c7
      have H1 : (some (0, 0)) = some (r1, r2) := by rw [if_neg (show ¬ (false = true) by decide)] at H; exact H
      clear H
      have H := H1
      clear H1
      simp only [Option.some.injEq, Prod.mk.injEq] at H
      obtain ⟨rfl, rfl⟩ := H
      go_enter Try.func40, Try.ntmps40
      go_wp2_with (first | ((with_reducible refine gate_callee (f := 59) rfl ?_); refine goesL_ (some 9) rfl rfl Try.func59 (by kernel_rfl) rfl #[.int .i64 a0, .int .i64 0, .int .i64 7] rfl (by (try simp only [List.map_toArray, List.map_cons, List.map_nil]); first | done | rfl | (simp only [List.length_drop, List.length_take]; rfl)) ?_; (with_reducible refine (spec_l1In.calls a0 0 7 true _ A4.out).mono ?_); rintro e w' ⟨rfl, ⟨nd, rfl⟩⟩; refine ⟨_, rfl, ?_⟩) | (go_at_call 67; (with_reducible refine (spec_l4Byte.calls a1 false _ A6.out).mono ?_); rintro e w' ⟨rfl, ⟨nd, rfl⟩⟩))
      go_ret2
      exact ⟨by first | rfl | (simp; done) | (simp [*]; done), by repeat (first | exact Drawn0.refl _ | apply Drawn0.step)⟩
  · replace c5 := Bool.eq_false_iff.mpr c5
    subst c5
    have H1 : (some (0, 0)) = some (r1, r2) := by rw [if_neg (show ¬ (false = true) by decide)] at H; exact H
    clear H
    have H := H1
    clear H1
    simp only [Option.some.injEq, Prod.mk.injEq] at H
    obtain ⟨rfl, rfl⟩ := H
    go_enter Try.func40, Try.ntmps40
    go_wp2_with (first | ((with_reducible refine gate_callee (f := 59) rfl ?_); refine goesL_ (some 9) rfl rfl Try.func59 (by kernel_rfl) rfl #[.int .i64 a0, .int .i64 0, .int .i64 7] rfl (by (try simp only [List.map_toArray, List.map_cons, List.map_nil]); first | done | rfl | (simp only [List.length_drop, List.length_take]; rfl)) ?_; (with_reducible refine (spec_l1In.calls a0 0 7 false _ A4.out).mono ?_); rintro e w' ⟨rfl, ⟨nd, rfl⟩⟩; refine ⟨_, rfl, ?_⟩))
    go_ret2
    exact ⟨by first | rfl | (simp; done) | (simp [*]; done), by repeat (first | exact Drawn0.refl _ | apply Drawn0.step)⟩

end Go.Proofs.Ytahibkfcohajcaa.PFnTurned
