/- The machine's side of a law, written by a program of this session for this claim. -/
import Derived.Test.YtahibkfcohajcaaQFnAppliedx0
namespace Go.Proofs.Ytahibkfcohajcaa.QFnApplied
open Go.RowKit Go.Proofs.Ytahibkfcohajcaa.LibX Go.Proofs.YtahibkfcohajcaaW.PrintWords Go.Proofs.YtahibkfcohajcaaW.PrintLast Go.Proofs.YtahibkfcohajcaaW.PrintMore
attribute [local go_sem] max2_int min2_int max_two min_two max_three min_three max_four min_four   -- for this text's walks alone
set_option linter.unusedVariables false
set_option linter.unusedSimpArgs false

/-! ### spec_l14Read: function 81 -/
def spec_l14Read.l0 : Nat → ByteArray → Int → Int → Option (Int)
  | 0, _, _, _ => none
  | k + 1, x0, x3, x4 => if x4 < (x0.size : Int) then (if 0 ≤ x4 then (spec_l14Read.l0 k x0 (wrap64 ((wrap64 (256 * x3)) + (wrap64 (bt x0 x4)))) (wrap64 (x4 + 1))) else (none)) else (some x3)
def spec_l14Read.f (k : Nat) (a0 : ByteArray) : Option (Int) := spec_l14Read.l0 k a0 0 0
theorem spec_l14Read.mono_l : ∀ k, (∀ y0 y1 y2, LeO (spec_l14Read.l0 k y0 y1 y2) (spec_l14Read.l0 (k + 1) y0 y1 y2))
  | 0 => fun _ _ _ r h => by simp [spec_l14Read.l0] at h
  | k + 1 => by
    have ih0 := spec_l14Read.mono_l k
    · intro y0 y1 y2
      unfold spec_l14Read.l0
      repeat' first
      | (with_reducible exact ih0 _ _ _)
      | (with_reducible exact LeO.refl _)
      | (with_reducible exact LeO.none _)
      | (with_reducible refine LeO.ite ?_ ?_)
      | (with_reducible refine LeO.bind ?_ (fun _ => ?_))
      | exact ih0 _ _ _
      | exact LeO.none _
      | refine LeO.ite ?_ ?_
      | refine LeO.bind ?_ (fun _ => ?_)
theorem spec_l14Read.mono : ∀ a0 k, LeO (spec_l14Read.f k a0) (spec_l14Read.f (k + 1) a0) := by
  intro a0 k
  have ih0 := spec_l14Read.mono_l k
  unfold spec_l14Read.f
  repeat' first
      | (with_reducible exact ih0 _ _ _)
      | (with_reducible exact LeO.refl _)
      | (with_reducible exact LeO.none _)
      | (with_reducible refine LeO.ite ?_ ?_)
      | (with_reducible refine LeO.bind ?_ (fun _ => ?_))
      | exact ih0 _ _ _
      | exact LeO.none _
      | refine LeO.ite ?_ ?_
      | refine LeO.bind ?_ (fun _ => ?_)
set_option maxHeartbeats 8000000 in
set_option maxRecDepth 100000 in
theorem spec_l14Read.calls (k : Nat) (a0 : ByteArray) (r : Int) (w : World) (h : spec_l14Read.f k a0 = some r) :
    Calls Try.prog 81 #[.string a0] w fun e w' => e = .returned (.int .i64 r) ∧ Drawn0 w w' := by
  have H : (spec_l14Read.l0 k a0 0 0) = some r := h
  clear h
  have H' := Aside0.mk H
  clear H
  go_enter Try.func81, Try.ntmps81
  go_wp2
  go_loopg [3, 4] k (fun kq v3 v4 w' => ∃ (x3_1 : Int) (x4_1 : Int), v3 = .int .i64 x3_1 ∧ v4 = .int .i64 x4_1 ∧ Aside0 (spec_l14Read.l0 kq a0 x3_1 x4_1 = some r) ∧ Aside0 (kq ≤ k) ∧ Drawn0 w w')
  case atStart => exact ⟨(0), (0), (by first | rfl | (simp; done) | (simp [*]; done) | (simp; decide +kernel) | (simp [wrap64]; done)), (by first | rfl | (simp; done) | (simp [*]; done) | (simp; decide +kernel) | (simp [wrap64]; done)), H', ⟨Nat.le_refl _⟩, by repeat (first | exact Drawn0.refl _ | apply Drawn0.step)⟩
  case round =>
    clear H'
    obtain ⟨x3_1, x4_1, rfl, rfl, HA, HK1, ⟨m1, rfl⟩⟩ := hrel
    cases gk with
    | zero => exact absurd HA.out (by simp [spec_l14Read.l0])
    | succ k1 =>
      have H := HA.out
      clear HA
      simp only [spec_l14Read.l0] at H
      by_cases c2 : x4_1 < (a0.size : Int)
      · rw [if_pos c2] at H
        have c2b0 : decide (x4_1 < (a0.size : Int)) = true := decide_eq_true c2
        clear c2
        by_cases c3 : 0 ≤ x4_1
        · rw [if_pos c3] at H
          have c3b0 : decide (0 ≤ x4_1) = true := decide_eq_true c3
          clear c3
          have H' := Aside0.mk H
          clear H
          have p4 : 0 ≤ (x4_1 : Int) := of_decide_eq_true (by first | (with_reducible assumption) | assumption)
          have q4 : x4_1 < (a0.size : Int) := of_decide_eq_true (by first | (with_reducible assumption) | assumption)
          have hx4 := bt_at a0 x4_1
          replace p4 := eq_true p4
          replace q4 := eq_true q4
          go_wp2
          go_roundg k1
          case measure => have := HK1.out; omega
          case rel => exact ⟨(wrap64 ((wrap64 (256 * x3_1)) + (wrap64 (bt a0 x4_1)))), (wrap64 (x4_1 + 1)), (by first | rfl | (simp; done) | (simp [*]; done) | (simp; decide +kernel) | (simp [wrap64]; done)), (by first | rfl | (simp; done) | (simp [*]; done) | (simp; decide +kernel) | (simp [wrap64]; done)), H', ⟨by have := HK1.out; omega⟩, by repeat (first | exact Drawn0.refl _ | apply Drawn0.step)⟩
        · rw [if_neg c3] at H
          exact absurd H (by simp)
      · rw [if_neg c2] at H
        have c2b0 : decide (x4_1 < (a0.size : Int)) = false := decide_eq_false c2
        clear c2
        obtain rfl := Option.some.inj H
        go_wp2
        go_ret
        exact ⟨by first | rfl | (simp; done) | (simp [*]; done) | (simp; decide +kernel) | (simp [wrap64]; done), by repeat (first | exact Drawn0.refl _ | apply Drawn0.step)⟩

/-! ### spec_Applied: function 43 -/
mutual
def spec_Applied.j0 : Nat → ByteArray → ByteArray → Bool → Option (ByteArray × Bool)
  | 0, _, _, _ => none
  | k + 1, x0, x1, x30 => if x30 = true then (some ((⟨#[]⟩ : ByteArray), false)) else (if 0 ≤ (wrap64 ((wrap64 ((x1.size : Int) - 6)) + 3)) then (if (wrap64 ((wrap64 ((x1.size : Int) - 6)) + 3)) ≤ (x1.size : Int) then ((spec_l14Read.f k (x1.extract ((wrap64 ((wrap64 ((x1.size : Int) - 6)) + 3)) : Int).toNat x1.size)).bind fun t202 => (if 0 ≤ (wrap64 ((x1.size : Int) - 6)) then (if (wrap64 ((x1.size : Int) - 6)) ≤ (wrap64 ((wrap64 ((x1.size : Int) - 6)) + 3)) then (if (x1.extract ((wrap64 ((x1.size : Int) - 6)) : Int).toNat ((wrap64 ((wrap64 ((x1.size : Int) - 6)) + 3)) : Int).toNat).toList = ([69, 78, 68] : List UInt8) then (spec_Applied.j1 k x0 x1 (wrap64 ((x1.size : Int) - 6)) t202 (decide (t202 > 20000))) else (spec_Applied.j1 k x0 x1 (wrap64 ((x1.size : Int) - 6)) t202 true)) else (none)) else (none))) else (none)) else (none))
def spec_Applied.j1 : Nat → ByteArray → ByteArray → Int → Int → Bool → Option (ByteArray × Bool)
  | 0, _, _, _, _, _ => none
  | k + 1, x0, x1, x6, x7, x48 => if x48 = true then (some ((⟨#[]⟩ : ByteArray), false)) else (if 0 ≤ x7 then (if (x7 : Int).toNat ≤ 281474976710656 then ((some (List.replicate (x7 : Int).toNat 0 : List Int)).bind fun y203 => (spec_Applied.l0 k x1 x6 x7 (cpy y203 0 (y203.length) (bytesOf x0)) 0 4)) else (none)) else (none))
def spec_Applied.l0 : Nat → ByteArray → Int → Int → List Int → Int → Int → Option (ByteArray × Bool)
  | 0, _, _, _, _, _, _ => none
  | k + 1, x1, x6, x7, x8, x9, x10 => if x10 < x6 then (if (wrap64 (x6 - x10)) < 6 then (some ((⟨#[]⟩ : ByteArray), false)) else (if 0 ≤ x10 then (if x10 ≤ (wrap64 (x10 + 3)) then (if (wrap64 (x10 + 3)) ≤ (x1.size : Int) then ((spec_l14Read.f k (x1.extract (x10 : Int).toNat ((wrap64 (x10 + 3)) : Int).toNat)).bind fun t207 => (if 0 ≤ (wrap64 (x10 + 3)) then (if (wrap64 (x10 + 3)) ≤ (wrap64 (x10 + 5)) then (if (wrap64 (x10 + 5)) ≤ (x1.size : Int) then ((spec_l14Read.f k (x1.extract ((wrap64 (x10 + 3)) : Int).toNat ((wrap64 (x10 + 5)) : Int).toNat)).bind fun t208 => (if t208 = 0 then (some ((⟨#[]⟩ : ByteArray), false)) else (if (wrap64 ((wrap64 (x6 - x10)) - 5)) < t208 then (some ((⟨#[]⟩ : ByteArray), false)) else (if t207 < x9 then (some ((⟨#[]⟩ : ByteArray), false)) else (if (wrap64 (t207 + t208)) > x7 then (some ((⟨#[]⟩ : ByteArray), false)) else (if 0 ≤ t207 then (if t207 ≤ (x8.length : Int) then (if 0 ≤ (wrap64 (x10 + 5)) then (if (wrap64 (x10 + 5)) ≤ (wrap64 ((wrap64 (x10 + 5)) + t208)) then (if (wrap64 ((wrap64 (x10 + 5)) + t208)) ≤ (x1.size : Int) then (spec_Applied.l0 k x1 x6 x7 (cpy x8 (t207 : Int).toNat (x8.length - (t207 : Int).toNat) (bytesOf (x1.extract ((wrap64 (x10 + 5)) : Int).toNat ((wrap64 ((wrap64 (x10 + 5)) + t208)) : Int).toNat))) (wrap64 (t207 + t208)) (wrap64 ((wrap64 (x10 + 5)) + t208))) else (none)) else (none)) else (none)) else (none)) else (none))))))) else (none)) else (none)) else (none))) else (none)) else (none)) else (none))) else (some (strOfNums x8, true))
end
def spec_Applied.f (k : Nat) (a0 : ByteArray) (a1 : ByteArray) : Option (ByteArray × Bool) := if (a0.size : Int) > 20000 then (spec_Applied.j0 k a0 a1 true) else (if (a1.size : Int) > 80000 then (spec_Applied.j0 k a0 a1 true) else (if (a1.size : Int) < 10 then (spec_Applied.j0 k a0 a1 true) else (if 0 ≤ 4 then (if 4 ≤ (a1.size : Int) then (spec_Applied.j0 k a0 a1 ((a1.extract 0 4).toList != ([68, 73, 70, 70] : List UInt8))) else (none)) else (none))))
theorem spec_Applied.mono_l : ∀ k, (∀ y0 y1 y2, LeO (spec_Applied.j0 k y0 y1 y2) (spec_Applied.j0 (k + 1) y0 y1 y2)) ∧ (∀ y0 y1 y2 y3 y4, LeO (spec_Applied.j1 k y0 y1 y2 y3 y4) (spec_Applied.j1 (k + 1) y0 y1 y2 y3 y4)) ∧ (∀ y0 y1 y2 y3 y4 y5, LeO (spec_Applied.l0 k y0 y1 y2 y3 y4 y5) (spec_Applied.l0 (k + 1) y0 y1 y2 y3 y4 y5))
  | 0 => ⟨fun _ _ _ r h => by simp [spec_Applied.j0] at h, fun _ _ _ _ _ r h => by simp [spec_Applied.j1] at h, fun _ _ _ _ _ _ r h => by simp [spec_Applied.l0] at h⟩
  | k + 1 => by
    obtain ⟨ih0, ih1, ih2⟩ := spec_Applied.mono_l k
    refine ⟨?_, ?_, ?_⟩
    · intro y0 y1 y2
      unfold spec_Applied.j0
      repeat' first
      | (with_reducible exact ih0 _ _ _)
      | (with_reducible exact ih1 _ _ _ _ _)
      | (with_reducible exact ih2 _ _ _ _ _ _)
      | (with_reducible exact spec_l14Read.mono _ _)
      | (with_reducible exact LeO.refl _)
      | (with_reducible exact LeO.none _)
      | (with_reducible refine LeO.ite ?_ ?_)
      | (with_reducible refine LeO.bind ?_ (fun _ => ?_))
      | exact ih0 _ _ _
      | exact ih1 _ _ _ _ _
      | exact ih2 _ _ _ _ _ _
      | exact spec_l14Read.mono _ _
      | exact LeO.none _
      | refine LeO.ite ?_ ?_
      | refine LeO.bind ?_ (fun _ => ?_)
    · intro y0 y1 y2 y3 y4
      unfold spec_Applied.j1
      repeat' first
      | (with_reducible exact ih0 _ _ _)
      | (with_reducible exact ih1 _ _ _ _ _)
      | (with_reducible exact ih2 _ _ _ _ _ _)
      | (with_reducible exact spec_l14Read.mono _ _)
      | (with_reducible exact LeO.refl _)
      | (with_reducible exact LeO.none _)
      | (with_reducible refine LeO.ite ?_ ?_)
      | (with_reducible refine LeO.bind ?_ (fun _ => ?_))
      | exact ih0 _ _ _
      | exact ih1 _ _ _ _ _
      | exact ih2 _ _ _ _ _ _
      | exact spec_l14Read.mono _ _
      | exact LeO.none _
      | refine LeO.ite ?_ ?_
      | refine LeO.bind ?_ (fun _ => ?_)
    · intro y0 y1 y2 y3 y4 y5
      unfold spec_Applied.l0
      repeat' first
      | (with_reducible exact ih0 _ _ _)
      | (with_reducible exact ih1 _ _ _ _ _)
      | (with_reducible exact ih2 _ _ _ _ _ _)
      | (with_reducible exact spec_l14Read.mono _ _)
      | (with_reducible exact LeO.refl _)
      | (with_reducible exact LeO.none _)
      | (with_reducible refine LeO.ite ?_ ?_)
      | (with_reducible refine LeO.bind ?_ (fun _ => ?_))
      | exact ih0 _ _ _
      | exact ih1 _ _ _ _ _
      | exact ih2 _ _ _ _ _ _
      | exact spec_l14Read.mono _ _
      | exact LeO.none _
      | refine LeO.ite ?_ ?_
      | refine LeO.bind ?_ (fun _ => ?_)
theorem spec_Applied.mono : ∀ a0 a1 k, LeO (spec_Applied.f k a0 a1) (spec_Applied.f (k + 1) a0 a1) := by
  intro a0 a1 k
  obtain ⟨ih0, ih1, ih2⟩ := spec_Applied.mono_l k
  unfold spec_Applied.f
  repeat' first
      | (with_reducible exact ih0 _ _ _)
      | (with_reducible exact ih1 _ _ _ _ _)
      | (with_reducible exact ih2 _ _ _ _ _ _)
      | (with_reducible exact spec_l14Read.mono _ _)
      | (with_reducible exact LeO.refl _)
      | (with_reducible exact LeO.none _)
      | (with_reducible refine LeO.ite ?_ ?_)
      | (with_reducible refine LeO.bind ?_ (fun _ => ?_))
      | exact ih0 _ _ _
      | exact ih1 _ _ _ _ _
      | exact ih2 _ _ _ _ _ _
      | exact spec_l14Read.mono _ _
      | exact LeO.none _
      | refine LeO.ite ?_ ?_
      | refine LeO.bind ?_ (fun _ => ?_)
def spec_Applied.T18 : Bool × List (List Nat × List Nat) := (true, [([], []), ([], []), ([0, 1], [0, 1]), ([], []), ([], []), ([4], [4]), ([], []), ([6], [6]), ([], []), ([7, 8], [7, 8]), ([3, 5, 9], [3, 5, 9]), ([2, 10], [2, 10])])
def spec_Applied.B18 : List Nat := [0, 0, 3, 0, 0, 16, 0, 64, 0, 448, 1016, 2047]
theorem spec_Applied.tab18 : rtab .any (opsOf Try.f43 18) = spec_Applied.T18 := by kernel_rfl
theorem spec_Applied.bits18 : waitsOk spec_Applied.T18.2 spec_Applied.B18 = true := by kernel_rfl
set_option maxHeartbeats 8000000 in
set_option maxRecDepth 100000 in
theorem spec_Applied.calls (k : Nat) (a0 : ByteArray) (a1 : ByteArray) (r1 : ByteArray) (r2 : Bool) (w : World) (h : spec_Applied.f k a0 a1 = some (r1, r2)) :
    Calls Try.prog 43 #[.string a0, .string a1] w fun e w' => e = .returned (.tuple #[.string r1, .bool r2]) ∧ Below w.heap.size w w' := by
  have HB := Aside0.mk (Below.refl w.heap.size w)
  have H : (if (a0.size : Int) > 20000 then (spec_Applied.j0 k a0 a1 true) else (if (a1.size : Int) > 80000 then (spec_Applied.j0 k a0 a1 true) else (if (a1.size : Int) < 10 then (spec_Applied.j0 k a0 a1 true) else (if 0 ≤ 4 then (if 4 ≤ (a1.size : Int) then (spec_Applied.j0 k a0 a1 ((a1.extract 0 4).toList != ([68, 73, 70, 70] : List UInt8))) else (none)) else (none))))) = some (r1, r2) := h
  clear h
  have HC3 := Aside0.mk H
  clear H
  go_enter Try.func43, Try.ntmps43
  go_upto_region 1 with (fail)
  go_cut [30] (fun v30 wc => ∃ (kq : Nat) (x30_2 : Bool), v30 = .bool x30_2 ∧ Aside0 (spec_Applied.j0 kq a0 a1 x30_2 = some (r1, r2)) ∧ Aside0 (kq ≤ k) ∧ Aside0 (Below w.heap.size w wc))
  case first =>
    have H := HC3.out
    clear HC3
    by_cases c4 : (a0.size : Int) > 20000
    · rw [if_pos c4] at H
      have c4b0 : decide (20000 < (a0.size : Int)) = true := decide_eq_true c4
      have c4b1 : decide (20000 < a0.size) = true := decide_eq_true (by omega)
      clear c4
      (first | rw [c4b0] | (simp only [i64_w, i32_w]; rw [c4b0]) | skip)
      have H' := Aside0.mk H
      clear H
      go_wp2
      go_meet
      case rel => exact ⟨_, (true), (by first | rfl | (simp; done) | (simp [*]; done) | (simp; decide +kernel) | (simp [wrap64]; done)), H', ⟨by first | omega | exact Nat.le_refl _⟩, ⟨by repeat (first | (with_reducible first | exact HB.out | apply below_alloc | apply pw_below_drewN | apply below_drew1) | exact HB.out)⟩⟩
    · rw [if_neg c4] at H
      have c4b0 : decide (20000 < (a0.size : Int)) = false := decide_eq_false c4
      have c4b1 : decide (20000 < a0.size) = false := decide_eq_false (by omega)
      clear c4
      (first | rw [c4b0] | (simp only [i64_w, i32_w]; rw [c4b0]) | skip)
      by_cases c5 : (a1.size : Int) > 80000
      · rw [if_pos c5] at H
        have c5b0 : decide (80000 < (a1.size : Int)) = true := decide_eq_true c5
        have c5b1 : decide (80000 < a1.size) = true := decide_eq_true (by omega)
        clear c5
        have H' := Aside0.mk H
        clear H
        go_wp2
        go_meet
        case rel => exact ⟨_, (true), (by first | rfl | (simp; done) | (simp [*]; done) | (simp; decide +kernel) | (simp [wrap64]; done)), H', ⟨by first | omega | exact Nat.le_refl _⟩, ⟨by repeat (first | (with_reducible first | exact HB.out | apply below_alloc | apply pw_below_drewN | apply below_drew1) | exact HB.out)⟩⟩
      · rw [if_neg c5] at H
        have c5b0 : decide (80000 < (a1.size : Int)) = false := decide_eq_false c5
        have c5b1 : decide (80000 < a1.size) = false := decide_eq_false (by omega)
        clear c5
        by_cases c6 : (a1.size : Int) < 10
        · rw [if_pos c6] at H
          have c6b0 : decide ((a1.size : Int) < 10) = true := decide_eq_true c6
          have c6b1 : decide (a1.size < 10) = true := decide_eq_true (by omega)
          clear c6
          have H' := Aside0.mk H
          clear H
          go_wp2
          go_meet
          case rel => exact ⟨_, (true), (by first | rfl | (simp; done) | (simp [*]; done) | (simp; decide +kernel) | (simp [wrap64]; done)), H', ⟨by first | omega | exact Nat.le_refl _⟩, ⟨by repeat (first | (with_reducible first | exact HB.out | apply below_alloc | apply pw_below_drewN | apply below_drew1) | exact HB.out)⟩⟩
        · rw [if_neg c6] at H
          have c6b0 : decide ((a1.size : Int) < 10) = false := decide_eq_false c6
          have c6b1 : decide (a1.size < 10) = false := decide_eq_false (by omega)
          clear c6
          by_cases c7 : 0 ≤ 4
          · rw [if_pos c7] at H
            have c7b0 := eq_true c7
            have c7b1 : decide (0 ≤ 4) = true := decide_eq_true c7
            clear c7
            by_cases c8 : 4 ≤ (a1.size : Int)
            · rw [if_pos c8] at H
              have c8b0 := eq_true c8
              have c8b1 : decide (4 ≤ (a1.size : Int)) = true := decide_eq_true c8
              clear c8
              have H' := Aside0.mk H
              clear H
              go_wp2
              go_meet
              case rel => exact ⟨_, (((a1.extract 0 4).toList != ([68, 73, 70, 70] : List UInt8))), (by first | rfl | (simp; done) | (simp [*]; done) | (simp; decide +kernel) | (simp [wrap64]; done)), H', ⟨by first | omega | exact Nat.le_refl _⟩, ⟨by repeat (first | (with_reducible first | exact HB.out | apply below_alloc | apply pw_below_drewN | apply below_drew1) | exact HB.out)⟩⟩
            · rw [if_neg c8] at H
              exact absurd H (by simp)
          · rw [if_neg c7] at H
            exact absurd H (by simp)
  case rest =>
    clear HC3
    try clear p2
    try clear c4
    try clear c4b0
    try clear c4b1
    try clear c5
    try clear c5b0
    try clear c5b1
    try clear c6
    try clear c6b0
    try clear c6b1
    try clear p6
    try clear c7
    try clear c7b0
    try clear c7b1
    try clear c8
    try clear c8b0
    try clear c8b1
    obtain ⟨kq, x30_2, rfl, HA, HJ2, HB⟩ := hcut
    cases kq with
    | zero => exact absurd HA.out (by simp [spec_Applied.j0])
    | succ kj2 =>
      have H := HA.out
      clear HA
      simp only [spec_Applied.j0] at H
      by_cases c9 : x30_2 = true
      · subst c9
        have H1 : (some ((⟨#[]⟩ : ByteArray), false)) = some (r1, r2) := by rw [if_pos rfl] at H; exact H
        clear H
        have H := H1
        clear H1
        simp only [Option.some.injEq, Prod.mk.injEq] at H
        obtain ⟨rfl, rfl⟩ := H
        go_wp2
        go_ret2
        exact ⟨by first | rfl | (simp [errW_none, errW_some] <;> rfl) | (simp [*, errW_none, errW_some] <;> rfl) | (exfalso; simp_all; done), by repeat (first | (with_reducible first | exact HB.out | apply below_alloc | apply pw_below_drewN | apply below_drew1) | exact HB.out)⟩
      · replace c9 := Bool.eq_false_iff.mpr c9
        subst c9
        have H1 : (if 0 ≤ (wrap64 ((wrap64 ((a1.size : Int) - 6)) + 3)) then (if (wrap64 ((wrap64 ((a1.size : Int) - 6)) + 3)) ≤ (a1.size : Int) then ((spec_l14Read.f kj2 (a1.extract ((wrap64 ((wrap64 ((a1.size : Int) - 6)) + 3)) : Int).toNat a1.size)).bind fun t202 => (if 0 ≤ (wrap64 ((a1.size : Int) - 6)) then (if (wrap64 ((a1.size : Int) - 6)) ≤ (wrap64 ((wrap64 ((a1.size : Int) - 6)) + 3)) then (if (a1.extract ((wrap64 ((a1.size : Int) - 6)) : Int).toNat ((wrap64 ((wrap64 ((a1.size : Int) - 6)) + 3)) : Int).toNat).toList = ([69, 78, 68] : List UInt8) then (spec_Applied.j1 kj2 a0 a1 (wrap64 ((a1.size : Int) - 6)) t202 (decide (t202 > 20000))) else (spec_Applied.j1 kj2 a0 a1 (wrap64 ((a1.size : Int) - 6)) t202 true)) else (none)) else (none))) else (none)) else (none)) = some (r1, r2) := by rw [if_neg (show ¬ (false = true) by decide)] at H; exact H
        clear H
        have H := H1
        clear H1
        obtain ⟨ji10, hji10⟩ : ∃ j_ : Int, (wrap64 ((wrap64 ((a1.size : Int) - 6)) + 3)) = j_ := ⟨_, rfl⟩
        replace H : (if 0 ≤ (ji10) then (if (ji10) ≤ (a1.size : Int) then ((spec_l14Read.f kj2 (a1.extract ((ji10) : Int).toNat a1.size)).bind fun t202 => (if 0 ≤ (wrap64 ((a1.size : Int) - 6)) then (if (wrap64 ((a1.size : Int) - 6)) ≤ (ji10) then (if (a1.extract ((wrap64 ((a1.size : Int) - 6)) : Int).toNat ((ji10) : Int).toNat).toList = ([69, 78, 68] : List UInt8) then (spec_Applied.j1 kj2 a0 a1 (wrap64 ((a1.size : Int) - 6)) t202 (decide (t202 > 20000))) else (spec_Applied.j1 kj2 a0 a1 (wrap64 ((a1.size : Int) - 6)) t202 true)) else (none)) else (none))) else (none)) else (none)) = some (r1, r2) := by first | (rw [hji10] at H; exact H) | (simp only [hji10] at H ⊢; exact H)
        have hji10w : (IntKind.i64.wrap ((wrap64 ((a1.size : Int) - 6)) + 3)) = ji10 := (i64_w _).trans hji10
        by_cases c11 : 0 ≤ (ji10)
        · rw [if_pos c11] at H
          have c11b0 := eq_true c11
          have c11b1 : decide (0 ≤ (ji10)) = true := decide_eq_true c11
          clear c11
          by_cases c12 : (ji10) ≤ (a1.size : Int)
          · rw [if_pos c12] at H
            have c12b0 := eq_true c12
            have c12b1 : decide ((ji10) ≤ (a1.size : Int)) = true := decide_eq_true c12
            clear c12
            replace H := Option.bind_eq_some_iff.mp H
            obtain ⟨t202, A130, H⟩ := H
            replace H : (if 0 ≤ (wrap64 ((a1.size : Int) - 6)) then (if (wrap64 ((a1.size : Int) - 6)) ≤ (ji10) then (if (a1.extract ((wrap64 ((a1.size : Int) - 6)) : Int).toNat ((ji10) : Int).toNat).toList = ([69, 78, 68] : List UInt8) then (spec_Applied.j1 kj2 a0 a1 (wrap64 ((a1.size : Int) - 6)) t202 (decide (t202 > 20000))) else (spec_Applied.j1 kj2 a0 a1 (wrap64 ((a1.size : Int) - 6)) t202 true)) else (none)) else (none)) = some (r1, r2) := H
            have A13 := Aside0.mk A130
            clear A130
            have HC14 := Aside0.mk H
            clear H
            go_upto_region 5 with (first | ((with_reducible refine gate_callee (f := 81) rfl ?_); refine goesL_ (some 38) rfl rfl Try.func81 (by kernel_rfl) rfl #[.string (a1.extract ((ji10) : Int).toNat a1.size)] rfl (by (try simp only [List.map_toArray, List.map_cons, List.map_nil]); first | done | (simp only [hji10]; rfl) | rfl | (simp only [List.length_drop, List.length_take]; rfl)) ?_; (with_reducible refine (spec_l14Read.calls kj2 (a1.extract ((ji10) : Int).toNat a1.size) t202 _ A13.out).mono ?_); rintro e w' ⟨rfl, ⟨nd, rfl⟩⟩; refine ⟨_, rfl, ?_⟩))
            (try simp only [Act.put, List.setIfInBounds_toArray, List.set_cons_zero, List.set_cons_succ])
            go_cut [48] (fun v48 wc => ∃ (kq : Nat) (x48_13 : Bool), v48 = .bool x48_13 ∧ Aside0 (spec_Applied.j1 kq a0 a1 (wrap64 ((a1.size : Int) - 6)) t202 x48_13 = some (r1, r2)) ∧ Aside0 (kq ≤ kj2) ∧ Aside0 (Below w.heap.size w wc))
            case first =>
              have H := HC14.out
              clear HC14
              obtain ⟨ji15, hji15⟩ : ∃ j_ : Int, (wrap64 ((a1.size : Int) - 6)) = j_ := ⟨_, rfl⟩
              replace H : (if 0 ≤ (ji15) then (if (ji15) ≤ (ji10) then (if (a1.extract ((ji15) : Int).toNat ((ji10) : Int).toNat).toList = ([69, 78, 68] : List UInt8) then (spec_Applied.j1 kj2 a0 a1 ji15 t202 (decide (t202 > 20000))) else (spec_Applied.j1 kj2 a0 a1 ji15 t202 true)) else (none)) else (none)) = some (r1, r2) := by first | (rw [hji15] at H; exact H) | (simp only [hji15] at H ⊢; exact H)
              have hji15w : (IntKind.i64.wrap ((a1.size : Int) - 6)) = ji15 := (i64_w _).trans hji15
              (try rw [hji15] at hji10)
              (try rw [hji15] at hji10w)
              by_cases c16 : 0 ≤ (ji15)
              · rw [if_pos c16] at H
                have c16b0 := eq_true c16
                have c16b1 : decide (0 ≤ (ji15)) = true := decide_eq_true c16
                clear c16
                by_cases c17 : (ji15) ≤ (ji10)
                · rw [if_pos c17] at H
                  have c17b0 := eq_true c17
                  have c17b1 : decide ((ji15) ≤ (ji10)) = true := decide_eq_true c17
                  clear c17
                  have c18b0 := eq_true (of_decide_eq_true (by first | (with_reducible assumption) | assumption) : (ji10) ≤ (a1.size : Int))
                  by_cases c19 : (a1.extract ((ji15) : Int).toNat ((ji10) : Int).toNat).toList = ([69, 78, 68] : List UInt8)
                  · rw [if_pos c19] at H
                    have c19b0 : ((a1.extract ((ji15) : Int).toNat ((ji10) : Int).toNat).toList == ([69, 78, 68] : List UInt8)) = true := beq_iff_eq.mpr c19
                    have c19b1 : ((a1.extract ((ji15) : Int).toNat ((ji10) : Int).toNat).toList != ([69, 78, 68] : List UInt8)) = false := bne_eq_false_iff_eq.mpr c19
                    clear c19
                    (first | rw [c19b0] | (simp only [i64_w, i32_w]; rw [c19b0]) | skip)
                    have H' := Aside0.mk H
                    clear H
                    go_wp2
                    go_meet
                    case rel => exact ⟨_, (decide (t202 > 20000)), (by first | rfl | (simp; done) | (simp [*]; done) | (simp; decide +kernel) | (simp [wrap64]; done)), (by first | with_reducible exact H' | (have H2_ := H'; simp only [← hji10, ← hji15] at H2_ ⊢; with_reducible exact H2_) | exact H'), ⟨by have := HJ2.out; first | omega | exact Nat.le_refl _⟩, ⟨by repeat (first | (with_reducible first | exact HB.out | apply below_alloc | apply pw_below_drewN | apply below_drew1) | exact HB.out)⟩⟩
                  · rw [if_neg c19] at H
                    have c19b0 : ((a1.extract ((ji15) : Int).toNat ((ji10) : Int).toNat).toList == ([69, 78, 68] : List UInt8)) = false := beq_eq_false_iff_ne.mpr c19
                    have c19b1 : ((a1.extract ((ji15) : Int).toNat ((ji10) : Int).toNat).toList != ([69, 78, 68] : List UInt8)) = true := bne_iff_ne.mpr c19
                    (first | rw [c19b0] | (simp only [i64_w, i32_w]; rw [c19b0]) | skip)
                    have H' := Aside0.mk H
                    clear H
                    go_wp2
                    go_meet
                    case rel => exact ⟨_, (true), (by first | rfl | (simp; done) | (simp [*]; done) | (simp; decide +kernel) | (simp [wrap64]; done)), (by first | with_reducible exact H' | (have H2_ := H'; simp only [← hji10, ← hji15] at H2_ ⊢; with_reducible exact H2_) | exact H'), ⟨by have := HJ2.out; first | omega | exact Nat.le_refl _⟩, ⟨by repeat (first | (with_reducible first | exact HB.out | apply below_alloc | apply pw_below_drewN | apply below_drew1) | exact HB.out)⟩⟩
                · rw [if_neg c17] at H
                  exact absurd H (by simp)
              · rw [if_neg c16] at H
                exact absurd H (by simp)
            case rest =>
              clear HC14
              try clear c1
              try clear p2
              try clear c4
              try clear c4b0
              try clear c4b1
              try clear c5
              try clear c5b0
              try clear c5b1
              try clear c6
              try clear c6b0
              try clear c6b1
              try clear p6
              try clear c7
              try clear c7b0
              try clear c7b1
              try clear c8
              try clear c8b0
              try clear c8b1
              try clear c9
              try clear c11
              try clear c11b0
              try clear c11b1
              try clear c12
              try clear c12b0
              try clear c12b1
              try clear c16
              try clear c16b0
              try clear c16b1
              try clear c17
              try clear c17b0
              try clear c17b1
              try clear c18
              try clear c18b0
              try clear c19
              try clear c19b0
              try clear c19b1
              try clear p2
              try clear p6
              obtain ⟨kq, x48_13, rfl, HA, HJ13, HB⟩ := hcut
              cases kq with
              | zero => exact absurd HA.out (by simp [spec_Applied.j1])
              | succ kj13 =>
                have H := HA.out
                clear HA
                simp only [spec_Applied.j1] at H
                by_cases c20 : x48_13 = true
                · subst c20
                  have H1 : (some ((⟨#[]⟩ : ByteArray), false)) = some (r1, r2) := by rw [if_pos rfl] at H; exact H
                  clear H
                  have H := H1
                  clear H1
                  simp only [Option.some.injEq, Prod.mk.injEq] at H
                  obtain ⟨rfl, rfl⟩ := H
                  go_wp2
                  go_ret2
                  exact ⟨by first | rfl | (simp [errW_none, errW_some] <;> rfl) | (simp only [← hji10]; first | rfl | (simp [errW_none, errW_some] <;> rfl)) | (simp [*, errW_none, errW_some] <;> rfl) | (exfalso; simp_all; done), by repeat (first | (with_reducible first | exact HB.out | apply below_alloc | apply pw_below_drewN | apply below_drew1) | exact HB.out)⟩
                · replace c20 := Bool.eq_false_iff.mpr c20
                  subst c20
                  have H1 : (if 0 ≤ t202 then (if (t202 : Int).toNat ≤ 281474976710656 then ((some (List.replicate (t202 : Int).toNat 0 : List Int)).bind fun y203 => (spec_Applied.l0 kj13 a1 (wrap64 ((a1.size : Int) - 6)) t202 (cpy y203 0 (y203.length) (bytesOf a0)) 0 4)) else (none)) else (none)) = some (r1, r2) := by rw [if_neg (show ¬ (false = true) by decide)] at H; exact H
                  clear H
                  have H := H1
                  clear H1
                  by_cases c21 : 0 ≤ t202
                  · rw [if_pos c21] at H
                    have c21b0 := eq_true c21
                    have c21b1 : decide (0 ≤ t202) = true := decide_eq_true c21
                    clear c21
                    by_cases c22 : (t202 : Int).toNat ≤ 281474976710656
                    · rw [if_pos c22] at H
                      have c22b0 := eq_true c22
                      have c22b1 : decide ((t202 : Int).toNat ≤ 281474976710656) = true := decide_eq_true c22
                      clear c22
                      obtain ⟨y203, hy203⟩ : ∃ y_ : List Int, y_ = (List.replicate (t202 : Int).toNat 0) := ⟨_, rfl⟩
                      replace H : (spec_Applied.l0 kj13 a1 (wrap64 ((a1.size : Int) - 6)) t202 (cpy y203 0 (y203.length) (bytesOf a0)) 0 4) = some (r1, r2) := by first | (rw [hy203]; with_reducible exact H) | (have H2_ := (Option.bind_some _ _).symm.trans H; rw [hy203]; with_reducible exact H2_) | (have H2_ := (Option.bind_some _ _).symm.trans H; with_reducible exact H2_) | with_reducible exact H | (rw [hy203]; exact H) | exact H
                      have Ny203 := Aside0.mk hy203
                      clear hy203
                      obtain ⟨y206, hy206⟩ : ∃ y_ : List Int, y_ = (cpy y203 0 (y203.length) (bytesOf a0)) := ⟨_, rfl⟩
                      replace H : (spec_Applied.l0 kj13 a1 (wrap64 ((a1.size : Int) - 6)) t202 y206 0 4) = some (r1, r2) := by first | (rw [hy206]; with_reducible exact H) | (have H2_ := (Option.bind_some _ _).symm.trans H; rw [hy206]; with_reducible exact H2_) | (have H2_ := (Option.bind_some _ _).symm.trans H; with_reducible exact H2_) | with_reducible exact H | (rw [hy206]; exact H) | exact H
                      have Ny206 := Aside0.mk hy206
                      clear hy206
                      have H' := Aside0.mk H
                      clear H
                      go_wp2_with (first | ((with_reducible refine gate_dst (N := 50) rfl ?_); (try (refine gate_guard (by rfl) ?_; dsimp only)); refine Kd.R_make (Kd.int .u8) _ 5 rfl (N := 50) rfl 22 _ _ rfl t202 rfl rfl Try.underlying22 (.int .u8 0) 1 info5 rfl (by decide) (by omega) 0 (ok := fun _ => True) (okp := fun _ => True) rfl (fun _ hk => hk) trivial (of_decide_eq_true (by first | (with_reducible assumption) | assumption)) (Nat.le_trans (Nat.mul_le_mul_right _ (of_decide_eq_true (by first | (with_reducible assumption) | assumption) : t202.toNat ≤ 281474976710656)) (by omega)) (Below.refl _ _) (Nat.le_refl _) ?_; intro v204 w23 ho24 hb hg_ hnew_; clear hg_ hnew_; (first | rw [← Ny203.out] at ho24 | (simp only [Int.reduceToNat] at ho24; rw [← Ny203.out] at ho24)); have n0_ := Aside0.mk (Kd.R_lower ho24 (below_size (by repeat (first | (with_reducible first | exact HB.out | apply below_alloc | apply pw_below_drewN | apply below_drew1) | exact HB.out)))); have n1_ := Aside0.mk (below_step (by repeat (first | (with_reducible first | exact HB.out | apply below_alloc | apply pw_below_drewN | apply below_drew1) | exact HB.out)) hb); clear HB; have HO205 := n0_; have HB := n1_; clear n0_ n1_; clear hb ho24; obtain ⟨Ao27, co27, eo27⟩ := Kd.R_slice HO205.out; subst eo27) | ((with_reducible refine gate_builtin (b := .copy) rfl ?_); (try (refine gate_guard (by rfl) ?_; dsimp only)); have e_ := (Kd.R_reads' HO205.out).1; have hm_ : y203.length = (y203.length) := (by omega); have hv_ : cpy y203 0 y203.length (bytesOf a0) = y206 := (by rw [Ny206.out]; first | done | rw [hm_]); refine R_copy (w0 := w) w.heap.size rfl (.tmp 51) _ 22 _ 5 rfl Try.underlying22 (by kernel_rfl) (A0 := Ao27) (n := y203.length) (c := co27) (m := y203.length) (lo := 0) rfl rfl ?hA (by (with_reducible repeat (first | apply Kd.R_alloc | apply Kd.R_drewN | apply Kd.R_drew)); exact HO205.out) ?hl (by repeat (first | (with_reducible first | exact HB.out | apply below_alloc | apply pw_below_drewN | apply below_drew1) | exact HB.out)) (below_size (by repeat (first | (with_reducible first | exact HB.out | apply below_alloc | apply pw_below_drewN | apply below_drew1) | exact HB.out))) ?_; (case hA => exact .inl ⟨rfl, rfl⟩); (case hl => omega); intro w25 ho hb hg; rw [hv_] at ho; clear e_ hm_ hv_; have n0_ := Aside0.mk (ho); have n1_ := Aside0.mk (hb); clear HO205; clear HB; have HO205 := n0_; have HB := n1_; clear n0_ n1_; clear ho hb hg))
                      go_loopg [9, 10] kj13 (fun kq v9 v10 w' => ∃ (x8_3 : List Int) (x9_3 : Int) (x10_3 : Int), v9 = .int .i64 x9_3 ∧ v10 = .int .i64 x10_3 ∧ Aside0 (spec_Applied.l0 kq a1 (wrap64 ((a1.size : Int) - 6)) t202 x8_3 x9_3 x10_3 = some (r1, r2)) ∧ Aside0 (kq ≤ kj13) ∧ Aside0 (Kd.R (Kd.int .u8) 5 w' w.heap.size (fun _ => True) (.slice Ao27 y203.length co27) x8_3) ∧ Aside0 (Below w.heap.size w w'))
                      case atStart => exact ⟨(y206), (0), (4), (by first | rfl | (simp; done) | (simp [*]; done) | (simp; decide +kernel) | (simp [wrap64]; done)), (by first | rfl | (simp; done) | (simp [*]; done) | (simp; decide +kernel) | (simp [wrap64]; done)), (by first | with_reducible exact H' | (have H2_ := H'; simp only [← hji10] at H2_ ⊢; with_reducible exact H2_) | exact H'), ⟨Nat.le_refl _⟩, ⟨by (with_reducible repeat (first | apply Kd.R_alloc | apply Kd.R_drewN | apply Kd.R_drew)); exact HO205.out⟩, ⟨by repeat (first | (with_reducible first | exact HB.out | apply below_alloc | apply pw_below_drewN | apply below_drew1) | exact HB.out)⟩⟩
                      case round =>
                        clear H'
                        try clear c1
                        try clear c2
                        try clear p2
                        try clear c4
                        try clear c4b0
                        try clear c4b1
                        try clear c5
                        try clear c5b0
                        try clear c5b1
                        try clear c6
                        try clear c6b0
                        try clear c6b1
                        try clear p6
                        try clear c7
                        try clear c7b0
                        try clear c7b1
                        try clear c8
                        try clear c8b0
                        try clear c8b1
                        try clear c9
                        try clear c11
                        try clear c11b0
                        try clear c11b1
                        try clear c12
                        try clear c12b0
                        try clear c12b1
                        try clear c16
                        try clear c16b0
                        try clear c16b1
                        try clear c17
                        try clear c17b0
                        try clear c17b1
                        try clear c18
                        try clear c18b0
                        try clear c19
                        try clear c19b0
                        try clear c19b1
                        try clear c20
                        try clear c21
                        try clear c21b0
                        try clear c21b1
                        try clear c22
                        try clear c22b0
                        try clear c22b1
                        try clear p2
                        try clear p6
                        obtain ⟨x8_3, x9_3, x10_3, rfl, rfl, HA, HK3, HO_8, HB⟩ := hrel
                        have hl8_3 := (Kd.R_reads' HO_8.out).1
                        rw [hl8_3] at HO_8
                        (try simp only [hl8_3])
                        cases gk with
                        | zero => exact absurd HA.out (by simp [spec_Applied.l0])
                        | succ k3 =>
                          have H := HA.out
                          clear HA
                          simp only [spec_Applied.l0] at H
                          by_cases c28 : x10_3 < (wrap64 ((a1.size : Int) - 6))
                          · rw [if_pos c28] at H
                            have c28b0 : decide (x10_3 < (wrap64 ((a1.size : Int) - 6))) = true := decide_eq_true c28
                            clear c28
                            by_cases c29 : (wrap64 ((wrap64 ((a1.size : Int) - 6)) - x10_3)) < 6
                            · rw [if_pos c29] at H
                              have c29b0 : decide ((wrap64 ((wrap64 ((a1.size : Int) - 6)) - x10_3)) < 6) = true := decide_eq_true c29
                              clear c29
                              simp only [Option.some.injEq, Prod.mk.injEq] at H
                              obtain ⟨rfl, rfl⟩ := H
                              go_wp2
                              go_ret2
                              exact ⟨by first | rfl | (simp [errW_none, errW_some] <;> rfl) | (simp only [← hji10]; first | rfl | (simp [errW_none, errW_some] <;> rfl)) | (simp [*, errW_none, errW_some] <;> rfl) | (exfalso; simp_all; done), by repeat (first | (with_reducible first | exact HB.out | apply below_alloc | apply pw_below_drewN | apply below_drew1) | exact HB.out)⟩
                            · rw [if_neg c29] at H
                              have c29b0 : decide ((wrap64 ((wrap64 ((a1.size : Int) - 6)) - x10_3)) < 6) = false := decide_eq_false c29
                              clear c29
                              by_cases c30 : 0 ≤ x10_3
                              · rw [if_pos c30] at H
                                have c30b0 := eq_true c30
                                have c30b1 : decide (0 ≤ x10_3) = true := decide_eq_true c30
                                clear c30
                                by_cases c31 : x10_3 ≤ (wrap64 (x10_3 + 3))
                                · rw [if_pos c31] at H
                                  have c31b0 := eq_true c31
                                  have c31b1 : decide (x10_3 ≤ (wrap64 (x10_3 + 3))) = true := decide_eq_true c31
                                  by_cases c32 : (wrap64 (x10_3 + 3)) ≤ (a1.size : Int)
                                  · rw [if_pos c32] at H
                                    have c32b0 := eq_true c32
                                    have c32b1 : decide ((wrap64 (x10_3 + 3)) ≤ (a1.size : Int)) = true := decide_eq_true c32
                                    replace H := Option.bind_eq_some_iff.mp H
                                    obtain ⟨t207, A330, H⟩ := H
                                    replace H : (if 0 ≤ (wrap64 (x10_3 + 3)) then (if (wrap64 (x10_3 + 3)) ≤ (wrap64 (x10_3 + 5)) then (if (wrap64 (x10_3 + 5)) ≤ (a1.size : Int) then ((spec_l14Read.f k3 (a1.extract ((wrap64 (x10_3 + 3)) : Int).toNat ((wrap64 (x10_3 + 5)) : Int).toNat)).bind fun t208 => (if t208 = 0 then (some ((⟨#[]⟩ : ByteArray), false)) else (if (wrap64 ((wrap64 ((wrap64 ((a1.size : Int) - 6)) - x10_3)) - 5)) < t208 then (some ((⟨#[]⟩ : ByteArray), false)) else (if t207 < x9_3 then (some ((⟨#[]⟩ : ByteArray), false)) else (if (wrap64 (t207 + t208)) > t202 then (some ((⟨#[]⟩ : ByteArray), false)) else (if 0 ≤ t207 then (if t207 ≤ (x8_3.length : Int) then (if 0 ≤ (wrap64 (x10_3 + 5)) then (if (wrap64 (x10_3 + 5)) ≤ (wrap64 ((wrap64 (x10_3 + 5)) + t208)) then (if (wrap64 ((wrap64 (x10_3 + 5)) + t208)) ≤ (a1.size : Int) then (spec_Applied.l0 k3 a1 (wrap64 ((a1.size : Int) - 6)) t202 (cpy x8_3 (t207 : Int).toNat (x8_3.length - (t207 : Int).toNat) (bytesOf (a1.extract ((wrap64 (x10_3 + 5)) : Int).toNat ((wrap64 ((wrap64 (x10_3 + 5)) + t208)) : Int).toNat))) (wrap64 (t207 + t208)) (wrap64 ((wrap64 (x10_3 + 5)) + t208))) else (none)) else (none)) else (none)) else (none)) else (none))))))) else (none)) else (none)) else (none)) = some (r1, r2) := H
                                    have A33 := Aside0.mk A330
                                    clear A330
                                    obtain ⟨ji34, hji34⟩ : ∃ j_ : Int, (wrap64 (x10_3 + 3)) = j_ := ⟨_, rfl⟩
                                    replace H : (if 0 ≤ (ji34) then (if (ji34) ≤ (wrap64 (x10_3 + 5)) then (if (wrap64 (x10_3 + 5)) ≤ (a1.size : Int) then ((spec_l14Read.f k3 (a1.extract ((ji34) : Int).toNat ((wrap64 (x10_3 + 5)) : Int).toNat)).bind fun t208 => (if t208 = 0 then (some ((⟨#[]⟩ : ByteArray), false)) else (if (wrap64 ((wrap64 ((wrap64 ((a1.size : Int) - 6)) - x10_3)) - 5)) < t208 then (some ((⟨#[]⟩ : ByteArray), false)) else (if t207 < x9_3 then (some ((⟨#[]⟩ : ByteArray), false)) else (if (wrap64 (t207 + t208)) > t202 then (some ((⟨#[]⟩ : ByteArray), false)) else (if 0 ≤ t207 then (if t207 ≤ (x8_3.length : Int) then (if 0 ≤ (wrap64 (x10_3 + 5)) then (if (wrap64 (x10_3 + 5)) ≤ (wrap64 ((wrap64 (x10_3 + 5)) + t208)) then (if (wrap64 ((wrap64 (x10_3 + 5)) + t208)) ≤ (a1.size : Int) then (spec_Applied.l0 k3 a1 (wrap64 ((a1.size : Int) - 6)) t202 (cpy x8_3 (t207 : Int).toNat (x8_3.length - (t207 : Int).toNat) (bytesOf (a1.extract ((wrap64 (x10_3 + 5)) : Int).toNat ((wrap64 ((wrap64 (x10_3 + 5)) + t208)) : Int).toNat))) (wrap64 (t207 + t208)) (wrap64 ((wrap64 (x10_3 + 5)) + t208))) else (none)) else (none)) else (none)) else (none)) else (none))))))) else (none)) else (none)) else (none)) = some (r1, r2) := by first | (rw [hji34] at H; exact H) | (simp only [hji34] at H ⊢; exact H)
                                    (try rw [hji34] at c31b0)
                                    (try rw [hji34] at c31b1)
                                    (try rw [hji34] at c31)
                                    (try rw [hji34] at c32b0)
                                    (try rw [hji34] at c32b1)
                                    (try rw [hji34] at c32)
                                    (try rw [hji34] at A33)
                                    have hji34w : (IntKind.i64.wrap (x10_3 + 3)) = ji34 := (i64_w _).trans hji34
                                    by_cases c35 : 0 ≤ (ji34)
                                    · rw [if_pos c35] at H
                                      have c35b0 := eq_true c35
                                      have c35b1 : decide (0 ≤ (ji34)) = true := decide_eq_true c35
                                      clear c35
                                      by_cases c36 : (ji34) ≤ (wrap64 (x10_3 + 5))
                                      · rw [if_pos c36] at H
                                        have c36b0 := eq_true c36
                                        have c36b1 : decide ((ji34) ≤ (wrap64 (x10_3 + 5))) = true := decide_eq_true c36
                                        by_cases c37 : (wrap64 (x10_3 + 5)) ≤ (a1.size : Int)
                                        · rw [if_pos c37] at H
                                          have c37b0 := eq_true c37
                                          have c37b1 : decide ((wrap64 (x10_3 + 5)) ≤ (a1.size : Int)) = true := decide_eq_true c37
                                          replace H := Option.bind_eq_some_iff.mp H
                                          obtain ⟨t208, A380, H⟩ := H
                                          replace H : (if t208 = 0 then (some ((⟨#[]⟩ : ByteArray), false)) else (if (wrap64 ((wrap64 ((wrap64 ((a1.size : Int) - 6)) - x10_3)) - 5)) < t208 then (some ((⟨#[]⟩ : ByteArray), false)) else (if t207 < x9_3 then (some ((⟨#[]⟩ : ByteArray), false)) else (if (wrap64 (t207 + t208)) > t202 then (some ((⟨#[]⟩ : ByteArray), false)) else (if 0 ≤ t207 then (if t207 ≤ (x8_3.length : Int) then (if 0 ≤ (wrap64 (x10_3 + 5)) then (if (wrap64 (x10_3 + 5)) ≤ (wrap64 ((wrap64 (x10_3 + 5)) + t208)) then (if (wrap64 ((wrap64 (x10_3 + 5)) + t208)) ≤ (a1.size : Int) then (spec_Applied.l0 k3 a1 (wrap64 ((a1.size : Int) - 6)) t202 (cpy x8_3 (t207 : Int).toNat (x8_3.length - (t207 : Int).toNat) (bytesOf (a1.extract ((wrap64 (x10_3 + 5)) : Int).toNat ((wrap64 ((wrap64 (x10_3 + 5)) + t208)) : Int).toNat))) (wrap64 (t207 + t208)) (wrap64 ((wrap64 (x10_3 + 5)) + t208))) else (none)) else (none)) else (none)) else (none)) else (none)))))) = some (r1, r2) := H
                                          have A38 := Aside0.mk A380
                                          clear A380
                                          by_cases c39 : t208 = 0
                                          · rw [if_pos c39] at H
                                            have c39b0 : (t208 == 0) = true := beq_iff_eq.mpr c39
                                            have c39b1 : (t208 != 0) = false := bne_eq_false_iff_eq.mpr c39
                                            clear c39
                                            simp only [Option.some.injEq, Prod.mk.injEq] at H
                                            obtain ⟨rfl, rfl⟩ := H
                                            go_wp2_with (first | ((with_reducible refine gate_callee (f := 81) rfl ?_); refine goesL_ (some 66) rfl rfl Try.func81 (by kernel_rfl) rfl #[.string (a1.extract (x10_3 : Int).toNat ((ji34) : Int).toNat)] rfl (by (try simp only [List.map_toArray, List.map_cons, List.map_nil]); first | done | (simp only [hji34]; rfl) | rfl | (simp only [List.length_drop, List.length_take]; rfl)) ?_; (with_reducible refine (spec_l14Read.calls k3 (a1.extract (x10_3 : Int).toNat ((ji34) : Int).toNat) t207 _ A33.out).mono ?_); rintro e w' ⟨rfl, ⟨nd, rfl⟩⟩; refine ⟨_, rfl, ?_⟩) | ((with_reducible refine gate_callee (f := 81) rfl ?_); refine goesL_ (some 73) rfl rfl Try.func81 (by kernel_rfl) rfl #[.string (a1.extract ((ji34) : Int).toNat ((wrap64 (x10_3 + 5)) : Int).toNat)] rfl (by (try simp only [List.map_toArray, List.map_cons, List.map_nil]); first | done | (simp only [hji34]; rfl) | rfl | (simp only [List.length_drop, List.length_take]; rfl)) ?_; (with_reducible refine (spec_l14Read.calls k3 (a1.extract ((ji34) : Int).toNat ((wrap64 (x10_3 + 5)) : Int).toNat) t208 _ A38.out).mono ?_); rintro e w' ⟨rfl, ⟨nd, rfl⟩⟩; refine ⟨_, rfl, ?_⟩))
                                            go_ret2
                                            exact ⟨by first | rfl | (simp [errW_none, errW_some] <;> rfl) | (simp only [← hji10, ← hji34]; first | rfl | (simp [errW_none, errW_some] <;> rfl)) | (simp [*, errW_none, errW_some] <;> rfl) | (exfalso; simp_all; done), by repeat (first | (with_reducible first | exact HB.out | apply below_alloc | apply pw_below_drewN | apply below_drew1) | exact HB.out)⟩
                                          · rw [if_neg c39] at H
                                            have c39b0 : (t208 == 0) = false := beq_eq_false_iff_ne.mpr c39
                                            have c39b1 : (t208 != 0) = true := bne_iff_ne.mpr c39
                                            by_cases c40 : (wrap64 ((wrap64 ((wrap64 ((a1.size : Int) - 6)) - x10_3)) - 5)) < t208
                                            · rw [if_pos c40] at H
                                              have c40b0 : decide ((wrap64 ((wrap64 ((wrap64 ((a1.size : Int) - 6)) - x10_3)) - 5)) < t208) = true := decide_eq_true c40
                                              clear c40
                                              simp only [Option.some.injEq, Prod.mk.injEq] at H
                                              obtain ⟨rfl, rfl⟩ := H
                                              go_wp2_with (first | ((with_reducible refine gate_callee (f := 81) rfl ?_); refine goesL_ (some 66) rfl rfl Try.func81 (by kernel_rfl) rfl #[.string (a1.extract (x10_3 : Int).toNat ((ji34) : Int).toNat)] rfl (by (try simp only [List.map_toArray, List.map_cons, List.map_nil]); first | done | (simp only [hji34]; rfl) | rfl | (simp only [List.length_drop, List.length_take]; rfl)) ?_; (with_reducible refine (spec_l14Read.calls k3 (a1.extract (x10_3 : Int).toNat ((ji34) : Int).toNat) t207 _ A33.out).mono ?_); rintro e w' ⟨rfl, ⟨nd, rfl⟩⟩; refine ⟨_, rfl, ?_⟩) | ((with_reducible refine gate_callee (f := 81) rfl ?_); refine goesL_ (some 73) rfl rfl Try.func81 (by kernel_rfl) rfl #[.string (a1.extract ((ji34) : Int).toNat ((wrap64 (x10_3 + 5)) : Int).toNat)] rfl (by (try simp only [List.map_toArray, List.map_cons, List.map_nil]); first | done | (simp only [hji34]; rfl) | rfl | (simp only [List.length_drop, List.length_take]; rfl)) ?_; (with_reducible refine (spec_l14Read.calls k3 (a1.extract ((ji34) : Int).toNat ((wrap64 (x10_3 + 5)) : Int).toNat) t208 _ A38.out).mono ?_); rintro e w' ⟨rfl, ⟨nd, rfl⟩⟩; refine ⟨_, rfl, ?_⟩))
                                              go_ret2
                                              exact ⟨by first | rfl | (simp [errW_none, errW_some] <;> rfl) | (simp only [← hji10, ← hji34]; first | rfl | (simp [errW_none, errW_some] <;> rfl)) | (simp [*, errW_none, errW_some] <;> rfl) | (exfalso; simp_all; done), by repeat (first | (with_reducible first | exact HB.out | apply below_alloc | apply pw_below_drewN | apply below_drew1) | exact HB.out)⟩
                                            · rw [if_neg c40] at H
                                              have c40b0 : decide ((wrap64 ((wrap64 ((wrap64 ((a1.size : Int) - 6)) - x10_3)) - 5)) < t208) = false := decide_eq_false c40
                                              clear c40
                                              by_cases c41 : t207 < x9_3
                                              · rw [if_pos c41] at H
                                                have c41b0 : decide (t207 < x9_3) = true := decide_eq_true c41
                                                clear c41
                                                simp only [Option.some.injEq, Prod.mk.injEq] at H
                                                obtain ⟨rfl, rfl⟩ := H
                                                go_wp2_with (first | ((with_reducible refine gate_callee (f := 81) rfl ?_); refine goesL_ (some 66) rfl rfl Try.func81 (by kernel_rfl) rfl #[.string (a1.extract (x10_3 : Int).toNat ((ji34) : Int).toNat)] rfl (by (try simp only [List.map_toArray, List.map_cons, List.map_nil]); first | done | (simp only [hji34]; rfl) | rfl | (simp only [List.length_drop, List.length_take]; rfl)) ?_; (with_reducible refine (spec_l14Read.calls k3 (a1.extract (x10_3 : Int).toNat ((ji34) : Int).toNat) t207 _ A33.out).mono ?_); rintro e w' ⟨rfl, ⟨nd, rfl⟩⟩; refine ⟨_, rfl, ?_⟩) | ((with_reducible refine gate_callee (f := 81) rfl ?_); refine goesL_ (some 73) rfl rfl Try.func81 (by kernel_rfl) rfl #[.string (a1.extract ((ji34) : Int).toNat ((wrap64 (x10_3 + 5)) : Int).toNat)] rfl (by (try simp only [List.map_toArray, List.map_cons, List.map_nil]); first | done | (simp only [hji34]; rfl) | rfl | (simp only [List.length_drop, List.length_take]; rfl)) ?_; (with_reducible refine (spec_l14Read.calls k3 (a1.extract ((ji34) : Int).toNat ((wrap64 (x10_3 + 5)) : Int).toNat) t208 _ A38.out).mono ?_); rintro e w' ⟨rfl, ⟨nd, rfl⟩⟩; refine ⟨_, rfl, ?_⟩))
                                                go_ret2
                                                exact ⟨by first | rfl | (simp [errW_none, errW_some] <;> rfl) | (simp only [← hji10, ← hji34]; first | rfl | (simp [errW_none, errW_some] <;> rfl)) | (simp [*, errW_none, errW_some] <;> rfl) | (exfalso; simp_all; done), by repeat (first | (with_reducible first | exact HB.out | apply below_alloc | apply pw_below_drewN | apply below_drew1) | exact HB.out)⟩
                                              · rw [if_neg c41] at H
                                                have c41b0 : decide (t207 < x9_3) = false := decide_eq_false c41
                                                clear c41
                                                by_cases c42 : (wrap64 (t207 + t208)) > t202
                                                · rw [if_pos c42] at H
                                                  have c42b0 : decide (t202 < (wrap64 (t207 + t208))) = true := decide_eq_true c42
                                                  clear c42
                                                  simp only [Option.some.injEq, Prod.mk.injEq] at H
                                                  obtain ⟨rfl, rfl⟩ := H
                                                  go_wp2_with (first | ((with_reducible refine gate_callee (f := 81) rfl ?_); refine goesL_ (some 66) rfl rfl Try.func81 (by kernel_rfl) rfl #[.string (a1.extract (x10_3 : Int).toNat ((ji34) : Int).toNat)] rfl (by (try simp only [List.map_toArray, List.map_cons, List.map_nil]); first | done | (simp only [hji34]; rfl) | rfl | (simp only [List.length_drop, List.length_take]; rfl)) ?_; (with_reducible refine (spec_l14Read.calls k3 (a1.extract (x10_3 : Int).toNat ((ji34) : Int).toNat) t207 _ A33.out).mono ?_); rintro e w' ⟨rfl, ⟨nd, rfl⟩⟩; refine ⟨_, rfl, ?_⟩) | ((with_reducible refine gate_callee (f := 81) rfl ?_); refine goesL_ (some 73) rfl rfl Try.func81 (by kernel_rfl) rfl #[.string (a1.extract ((ji34) : Int).toNat ((wrap64 (x10_3 + 5)) : Int).toNat)] rfl (by (try simp only [List.map_toArray, List.map_cons, List.map_nil]); first | done | (simp only [hji34]; rfl) | rfl | (simp only [List.length_drop, List.length_take]; rfl)) ?_; (with_reducible refine (spec_l14Read.calls k3 (a1.extract ((ji34) : Int).toNat ((wrap64 (x10_3 + 5)) : Int).toNat) t208 _ A38.out).mono ?_); rintro e w' ⟨rfl, ⟨nd, rfl⟩⟩; refine ⟨_, rfl, ?_⟩))
                                                  go_ret2
                                                  exact ⟨by first | rfl | (simp [errW_none, errW_some] <;> rfl) | (simp only [← hji10, ← hji34]; first | rfl | (simp [errW_none, errW_some] <;> rfl)) | (simp [*, errW_none, errW_some] <;> rfl) | (exfalso; simp_all; done), by repeat (first | (with_reducible first | exact HB.out | apply below_alloc | apply pw_below_drewN | apply below_drew1) | exact HB.out)⟩
                                                · rw [if_neg c42] at H
                                                  have c42b0 : decide (t202 < (wrap64 (t207 + t208))) = false := decide_eq_false c42
                                                  clear c42
                                                  by_cases c43 : 0 ≤ t207
                                                  · rw [if_pos c43] at H
                                                    have c43b0 := eq_true c43
                                                    have c43b1 : decide (0 ≤ t207) = true := decide_eq_true c43
                                                    clear c43
                                                    by_cases c44 : t207 ≤ (x8_3.length : Int)
                                                    · rw [if_pos c44] at H
                                                      have c44b0 := eq_true c44
                                                      have c44b1 : decide (t207 ≤ (x8_3.length : Int)) = true := decide_eq_true c44
                                                      clear c44
                                                      obtain ⟨y209, hy209⟩ : ∃ y_ : List Int, y_ = (x8_3.drop (t207 : Int).toNat) := ⟨_, rfl⟩
                                                      replace H : (if 0 ≤ (wrap64 (x10_3 + 5)) then (if (wrap64 (x10_3 + 5)) ≤ (wrap64 ((wrap64 (x10_3 + 5)) + t208)) then (if (wrap64 ((wrap64 (x10_3 + 5)) + t208)) ≤ (a1.size : Int) then (spec_Applied.l0 k3 a1 (wrap64 ((a1.size : Int) - 6)) t202 (cpy x8_3 (t207 : Int).toNat (x8_3.length - (t207 : Int).toNat) (bytesOf (a1.extract ((wrap64 (x10_3 + 5)) : Int).toNat ((wrap64 ((wrap64 (x10_3 + 5)) + t208)) : Int).toNat))) (wrap64 (t207 + t208)) (wrap64 ((wrap64 (x10_3 + 5)) + t208))) else (none)) else (none)) else (none)) = some (r1, r2) := by first | (rw [hy209]; with_reducible exact H) | (have H2_ := (Option.bind_some _ _).symm.trans H; rw [hy209]; with_reducible exact H2_) | (have H2_ := (Option.bind_some _ _).symm.trans H; with_reducible exact H2_) | with_reducible exact H | (rw [hy209]; exact H) | exact H
                                                      have Ny209 := Aside0.mk hy209
                                                      clear hy209
                                                      obtain ⟨ji45, hji45⟩ : ∃ j_ : Int, (wrap64 (x10_3 + 5)) = j_ := ⟨_, rfl⟩
                                                      replace H : (if 0 ≤ (ji45) then (if (ji45) ≤ (wrap64 ((ji45) + t208)) then (if (wrap64 ((ji45) + t208)) ≤ (a1.size : Int) then (spec_Applied.l0 k3 a1 (wrap64 ((a1.size : Int) - 6)) t202 (cpy x8_3 (t207 : Int).toNat (x8_3.length - (t207 : Int).toNat) (bytesOf (a1.extract ((ji45) : Int).toNat ((wrap64 ((ji45) + t208)) : Int).toNat))) (wrap64 (t207 + t208)) (wrap64 ((ji45) + t208))) else (none)) else (none)) else (none)) = some (r1, r2) := by first | (rw [hji45] at H; exact H) | (simp only [hji45] at H ⊢; exact H)
                                                      (try rw [hji45] at c36b0)
                                                      (try rw [hji45] at c36b1)
                                                      (try rw [hji45] at c36)
                                                      (try rw [hji45] at c37b0)
                                                      (try rw [hji45] at c37b1)
                                                      (try rw [hji45] at c37)
                                                      (try rw [hji45] at A33)
                                                      (try rw [hji45] at A38)
                                                      have hji45w : (IntKind.i64.wrap (x10_3 + 5)) = ji45 := (i64_w _).trans hji45
                                                      by_cases c46 : 0 ≤ (ji45)
                                                      · rw [if_pos c46] at H
                                                        have c46b0 := eq_true c46
                                                        have c46b1 : decide (0 ≤ (ji45)) = true := decide_eq_true c46
                                                        clear c46
                                                        by_cases c47 : (ji45) ≤ (wrap64 ((ji45) + t208))
                                                        · rw [if_pos c47] at H
                                                          have c47b0 := eq_true c47
                                                          have c47b1 : decide ((ji45) ≤ (wrap64 ((ji45) + t208))) = true := decide_eq_true c47
                                                          by_cases c48 : (wrap64 ((ji45) + t208)) ≤ (a1.size : Int)
                                                          · rw [if_pos c48] at H
                                                            have c48b0 := eq_true c48
                                                            have c48b1 : decide ((wrap64 ((ji45) + t208)) ≤ (a1.size : Int)) = true := decide_eq_true c48
                                                            obtain ⟨y213, hy213⟩ : ∃ y_ : List Int, y_ = (cpy x8_3 (t207 : Int).toNat (x8_3.length - (t207 : Int).toNat) (bytesOf (a1.extract ((ji45) : Int).toNat ((wrap64 ((ji45) + t208)) : Int).toNat))) := ⟨_, rfl⟩
                                                            replace H : (spec_Applied.l0 k3 a1 (wrap64 ((a1.size : Int) - 6)) t202 y213 (wrap64 (t207 + t208)) (wrap64 ((ji45) + t208))) = some (r1, r2) := by first | (rw [hy213]; with_reducible exact H) | (have H2_ := (Option.bind_some _ _).symm.trans H; rw [hy213]; with_reducible exact H2_) | (have H2_ := (Option.bind_some _ _).symm.trans H; with_reducible exact H2_) | with_reducible exact H | (rw [hy213]; exact H) | exact H
                                                            have Ny213 := Aside0.mk hy213
                                                            clear hy213
                                                            have H' := Aside0.mk H
                                                            clear H
                                                            try go_wp2_with (first | ((with_reducible refine gate_callee (f := 81) rfl ?_); refine goesL_ (some 66) rfl rfl Try.func81 (by kernel_rfl) rfl #[.string (a1.extract (x10_3 : Int).toNat ((ji34) : Int).toNat)] rfl (by (try simp only [List.map_toArray, List.map_cons, List.map_nil]); first | done | (simp only [hji34]; rfl) | rfl | (simp only [List.length_drop, List.length_take]; rfl)) ?_; (with_reducible refine (spec_l14Read.calls k3 (a1.extract (x10_3 : Int).toNat ((ji34) : Int).toNat) t207 _ A33.out).mono ?_); rintro e w' ⟨rfl, ⟨nd, rfl⟩⟩; refine ⟨_, rfl, ?_⟩) | ((with_reducible refine gate_callee (f := 81) rfl ?_); refine goesL_ (some 73) rfl rfl Try.func81 (by kernel_rfl) rfl #[.string (a1.extract ((ji34) : Int).toNat ((ji45) : Int).toNat)] rfl (by (try simp only [List.map_toArray, List.map_cons, List.map_nil]); first | done | (simp only [hji34, hji45]; rfl) | rfl | (simp only [List.length_drop, List.length_take]; rfl)) ?_; (with_reducible refine (spec_l14Read.calls k3 (a1.extract ((ji34) : Int).toNat ((ji45) : Int).toNat) t208 _ A38.out).mono ?_); rintro e w' ⟨rfl, ⟨nd, rfl⟩⟩; refine ⟨_, rfl, ?_⟩))
                                                            (try (rw [drewN_self wr]; generalize hq_ : World.drewN wr _ = wr; have n0_ : Aside0 (Kd.R (Kd.int .u8) 5 wr w.heap.size (fun _ => True) (.slice Ao27 x8_3.length co27) x8_3) := ⟨by rw [← hq_]; exact (by (with_reducible repeat (first | apply Kd.R_alloc | apply Kd.R_drewN | apply Kd.R_drew)); exact HO_8.out)⟩; have n1_ : Aside0 (Below w.heap.size w wr) := ⟨by rw [← hq_]; exact (by repeat (first | (with_reducible first | exact HB.out | apply below_alloc | apply pw_below_drewN | apply below_drew1) | exact HB.out))⟩; clear HO_8 HB hq_; have HO_8 := n0_; have HB := n1_; clear n0_ n1_))
                                                            have n0_ := Aside0.mk (Kd.R_drew HO_8.out)
                                                            have n1_ := Aside0.mk (below_drew1 HB.out)
                                                            clear HO_8
                                                            clear HB
                                                            have HO_8 := n0_
                                                            have HB := n1_
                                                            clear n0_ n1_
                                                            have q50 : (t207 : Int) ≤ ((x8_3.length : Int) : Int) := of_decide_eq_true (by first | (with_reducible assumption) | assumption)
                                                            obtain ⟨i050, hi050, _, hsz50, _⟩ := info_parts info5
                                                            have hroom50 : x8_3.length ≤ co27 := (Kd.R_reads' HO_8.out).2.1
                                                            have hC50 : Kd.C (Kd.int .u8) _ Ao27 x8_3.length x8_3 := (Kd.R_reads' HO_8.out).2.2
                                                            have q050 : (0 : Int) ≤ (t207 : Int) := of_decide_eq_true (by first | (with_reducible assumption) | assumption)
                                                            have hcut50 := cut_from (P := Try.prog) 22 5 .i64 Try.underlying22 hi050 1 hsz50 Ao27 x8_3.length co27 t207 q050 q50
                                                            have hr50 := Kd.C_drop (m := (t207 : Int).toNat) (c := co27) hC50 (by omega) hroom50
                                                            obtain ⟨A50, hA50⟩ : ∃ A1, A1 = (if co27 = (t207 : Int).toNat then Ao27 else (Ao27 : Option Addr).map (·.add ((t207 : Int).toNat * 1))) := ⟨_, rfl⟩
                                                            obtain ⟨c50, hc50⟩ : ∃ c1, c1 = co27 - (t207 : Int).toNat := ⟨_, rfl⟩
                                                            have hy50 : y209.length = x8_3.length - (t207 : Int).toNat := (by rw [Ny209.out, List.length_drop] <;> omega)
                                                            rw [show (x8_3).drop (t207 : Int).toNat = y209 from Ny209.out.symm] at hr50
                                                            replace hr50 : Kd.C (Kd.int .u8) _ A50 y209.length y209 := (by rw [hA50]; exact hr50)
                                                            rw [← hy50, ← hA50, ← hc50] at hcut50
                                                            have HR212 := Aside0.mk hr50
                                                            have HC212 := Aside0.mk (show y209.length ≤ c50 from by rw [hy50, hc50]; exact Nat.sub_le_sub_right hroom50 _)
                                                            clear hr50 hC50 hroom50 hi050 hsz50 hc50
                                                            have KY50 := Aside0.mk hy50
                                                            have KA50 := Aside0.mk hA50
                                                            clear hy50 hA50
                                                            have KL50 := Aside0.mk (show (t207 : Int).toNat ≤ x8_3.length from by omega)
                                                            replace q50 := eq_true q50
                                                            refine start_ (n := 12) (S := fun w' => True) (ds := []) #[false, false, false, false, false, false, false, false, false, false, false, false] (by kernel_rfl) rfl rfl trivial (fun hHeld => ?_); refine with_tabW spec_Applied.tab18 spec_Applied.bits18 (fun HT_ HW_ => ?_)
                                                            generalize wr.drew = w49 at HO_8 HB HR212 hHeld ⊢
                                                            refine pure_ (i := 0) (N := some 96) (v := ?_) (a' := ?_) #[true, false, false, false, false, false, false, false, false, false, false, false] rfl rfl (any_of HT_.out (by kernel_rfl)) (fun _ _ _ h => h) (Or.inl ⟨by rfl, ?_⟩) ?_ ?_
                                                            rotate_left
                                                            · intro w'
                                                              go_simp
                                                              with_reducible rfl
                                                            rotate_left
                                                            · simp only [Act.put, List.setIfInBounds_toArray, List.set_cons_zero, List.set_cons_succ, i64_w, i32_w]
                                                              rfl
                                                            refine pure_ (i := 1) (N := some 97) (v := ?_) (a' := ?_) #[true, true, false, false, false, false, false, false, false, false, false, false] rfl rfl (any_of HT_.out (by kernel_rfl)) (fun _ _ _ h => h) (Or.inl ⟨by rfl, ?_⟩) ?_ ?_
                                                            rotate_left
                                                            · intro w'
                                                              go_simp
                                                              with_reducible rfl
                                                            rotate_left
                                                            · simp only [Act.put, List.setIfInBounds_toArray, List.set_cons_zero, List.set_cons_succ, i64_w, i32_w]
                                                              rfl
                                                            refine pure_ (i := 2) (N := some 98) (v := ?_) (a' := ?_) #[true, true, true, false, false, false, false, false, false, false, false, false] rfl rfl (any_of HT_.out (by kernel_rfl)) (fun _ _ _ h => h) (Or.inl ⟨by rfl, ?_⟩) ?_ ?_
                                                            rotate_left
                                                            · intro w'
                                                              go_simp
                                                              with_reducible rfl
                                                            rotate_left
                                                            · simp only [Act.put, List.setIfInBounds_toArray, List.set_cons_zero, List.set_cons_succ, i64_w, i32_w]
                                                              rfl
                                                            refine pure_ (i := 3) (N := some 99) (v := ?_) (a' := ?_) #[true, true, true, true, false, false, false, false, false, false, false, false] rfl rfl (any_of HT_.out (by kernel_rfl)) (fun _ _ _ h => h) (Or.inl ⟨by rfl, ?_⟩) ?_ ?_
                                                            rotate_left
                                                            · intro w'
                                                              go_simp
                                                              with_reducible rfl
                                                            rotate_left
                                                            · simp only [Act.put, List.setIfInBounds_toArray, List.set_cons_zero, List.set_cons_succ, i64_w, i32_w]
                                                              rfl
                                                            refine pure_ (i := 4) (N := some 100) (v := ?_) (a' := ?_) #[true, true, true, true, true, false, false, false, false, false, false, false] rfl rfl (any_of HT_.out (by kernel_rfl)) (fun _ _ _ h => h) (Or.inl ⟨by rfl, ?_⟩) ?_ ?_
                                                            rotate_left
                                                            · intro w'
                                                              go_simp
                                                              with_reducible rfl
                                                            rotate_left
                                                            · simp only [Act.put, List.setIfInBounds_toArray, List.set_cons_zero, List.set_cons_succ, i64_w, i32_w]
                                                              rfl
                                                            refine pure_ (i := 5) (N := some 101) (v := ?_) (a' := ?_) #[true, true, true, true, true, true, false, false, false, false, false, false] rfl rfl (any_of HT_.out (by kernel_rfl)) (fun _ _ _ h => h) (Or.inl ⟨by rfl, ?_⟩) ?_ ?_
                                                            rotate_left
                                                            · intro w'
                                                              go_simp
                                                              with_reducible rfl
                                                            rotate_left
                                                            · simp only [Act.put, List.setIfInBounds_toArray, List.set_cons_zero, List.set_cons_succ, i64_w, i32_w]
                                                              rfl
                                                            refine pure_ (i := 6) (N := some 102) (v := ?_) (a' := ?_) #[true, true, true, true, true, true, true, false, false, false, false, false] rfl rfl (any_of HT_.out (by kernel_rfl)) (fun _ _ _ h => h) (Or.inl ⟨by rfl, ?_⟩) ?_ ?_
                                                            rotate_left
                                                            · intro w'
                                                              go_simp
                                                              with_reducible rfl
                                                            rotate_left
                                                            · simp only [Act.put, List.setIfInBounds_toArray, List.set_cons_zero, List.set_cons_succ, i64_w, i32_w]
                                                              rfl
                                                            refine pure_ (i := 7) (N := some 103) (v := ?_) (a' := ?_) #[true, true, true, true, true, true, true, true, false, false, false, false] rfl rfl (any_of HT_.out (by kernel_rfl)) (fun _ _ _ h => h) (Or.inl ⟨by rfl, ?_⟩) ?_ ?_
                                                            rotate_left
                                                            · intro w'
                                                              go_simp
                                                              with_reducible rfl
                                                            rotate_left
                                                            · simp only [Act.put, List.setIfInBounds_toArray, List.set_cons_zero, List.set_cons_succ, i64_w, i32_w]
                                                              rfl
                                                            refine pure_ (i := 8) (N := some 104) (v := ?_) (a' := ?_) #[true, true, true, true, true, true, true, true, true, false, false, false] rfl rfl (any_of HT_.out (by kernel_rfl)) (fun _ _ _ h => h) (Or.inl ⟨by rfl, ?_⟩) ?_ ?_
                                                            rotate_left
                                                            · intro w'
                                                              go_simp
                                                              with_reducible rfl
                                                            rotate_left
                                                            · simp only [Act.put, List.setIfInBounds_toArray, List.set_cons_zero, List.set_cons_succ, i64_w, i32_w]
                                                              rfl
                                                            refine pure_ (i := 9) (N := some 105) (v := ?_) (a' := ?_) #[true, true, true, true, true, true, true, true, true, true, false, false] rfl rfl (any_of HT_.out (by kernel_rfl)) (fun _ _ _ h => h) (Or.inl ⟨by rfl, ?_⟩) ?_ ?_
                                                            rotate_left
                                                            · intro w'
                                                              go_simp
                                                              with_reducible rfl
                                                            rotate_left
                                                            · simp only [Act.put, List.setIfInBounds_toArray, List.set_cons_zero, List.set_cons_succ, i64_w, i32_w]
                                                              rfl
                                                            refine pure_ (i := 10) (N := some 106) (v := ?_) (a' := ?_) #[true, true, true, true, true, true, true, true, true, true, true, false] rfl rfl (any_of HT_.out (by kernel_rfl)) (fun _ _ _ h => h) (Or.inl ⟨by rfl, ?_⟩) ?_ ?_
                                                            rotate_left
                                                            · intro w'
                                                              go_simp
                                                              with_reducible rfl
                                                            rotate_left
                                                            · simp only [Act.put, List.setIfInBounds_toArray, List.set_cons_zero, List.set_cons_succ, i64_w, i32_w]
                                                              rfl
                                                            refine one_ (i := 11) (N := some 107) #[true, true, true, true, true, true, true, true, true, true, true, true] rfl rfl (one_of HT_.out (by kernel_rfl)) (by decide) (fun K hK => ?_)
                                                            have e_ := (Kd.R_reads' HO_8.out).1
                                                            have hy1_ := KY50.out
                                                            have b0_ : (0 : Int) ≤ (t207 : Int) := of_decide_eq_true (by first | (with_reducible assumption) | assumption)
                                                            have b2_ : (t207 : Int) ≤ ((x8_3.length : Int) : Int) := of_decide_eq_true (by first | (with_reducible assumption) | assumption)
                                                            have hm_ : y209.length = (x8_3.length - (t207 : Int).toNat) := (by omega)
                                                            have hv_ : cpy x8_3 (t207 : Int).toNat y209.length (bytesOf (a1.extract ((ji45) : Int).toNat ((wrap64 ((ji45) + t208)) : Int).toNat)) = y213 := (by rw [Ny213.out]; first | done | rw [hm_])
                                                            refine R_copy_step (w0 := w) w.heap.size (by rfl) (.tmp 98) _ 22 _ 5 rfl Try.underlying22 (by kernel_rfl) (A0 := Ao27) (n := x8_3.length) (c := co27) (m := y209.length) (lo := (t207 : Int).toNat) rfl rfl ?hA (by (with_reducible repeat (first | apply Kd.R_alloc | apply Kd.R_drewN | apply Kd.R_drew)); exact HO_8.out) ?hl (by repeat (first | (with_reducible first | exact HB.out | apply below_alloc | apply pw_below_drewN | apply below_drew1) | exact HB.out)) (below_size (by repeat (first | (with_reducible first | exact HB.out | apply below_alloc | apply pw_below_drewN | apply below_drew1) | exact HB.out))) ?_
                                                            (case hA => exact .inr KA50.out)
                                                            (case hl => omega)
                                                            intro w51 ho hb hg
                                                            rw [hv_] at ho
                                                            clear e_ hm_ hv_ hy1_ b0_ b2_
                                                            have n0_ := Aside0.mk (ho)
                                                            have n1_ := Aside0.mk (hb)
                                                            clear HO_8
                                                            clear HB
                                                            have HO_8 := n0_
                                                            have HB := n1_
                                                            clear n0_ n1_
                                                            clear ho hb hg
                                                            refine hK.out _ _ trivial (fun hHeld => ?_)
                                                            clear hK K
                                                            refine norm_ (a' := ?_) ?_ ?_
                                                            rotate_left
                                                            · show Act.put _ (some 107) _ = _
                                                              simp only [Act.put, List.setIfInBounds_toArray, List.set_cons_zero, List.set_cons_succ, i64_w, i32_w]
                                                              rfl
                                                            refine done_ (done_of HT_.out (by kernel_rfl)) ?_
                                                            try go_wp2
                                                            (try simp only [← hl8_3])
                                                            go_roundg k3
                                                            case measure => have := HJ2.out; have := HJ13.out; have := HK3.out; omega
                                                            case rel => exact ⟨(y213), (wrap64 (t207 + t208)), (wrap64 ((ji45) + t208)), (by first | rfl | (simp; done) | (simp [*]; done) | (simp; decide +kernel) | (simp [wrap64]; done)), (by first | rfl | (simp; done) | (simp only [← hji45] <;> (first | rfl | simp)) | (simp [*]; done) | (simp; decide +kernel) | (simp [wrap64]; done)), (by first | with_reducible exact H' | (have H2_ := H'; simp only [← hji10, ← hji34, ← hji45] at H2_ ⊢; with_reducible exact H2_) | exact H'), ⟨by have := HJ2.out; have := HJ13.out; have := HK3.out; omega⟩, ⟨by (try simp only [hl8_3]); (with_reducible repeat (first | apply Kd.R_alloc | apply Kd.R_drewN | apply Kd.R_drew)); exact HO_8.out⟩, ⟨by repeat (first | (with_reducible first | exact HB.out | apply below_alloc | apply pw_below_drewN | apply below_drew1) | exact HB.out)⟩⟩
                                                          · rw [if_neg c48] at H
                                                            exact absurd H (by simp)
                                                        · rw [if_neg c47] at H
                                                          exact absurd H (by simp)
                                                      · rw [if_neg c46] at H
                                                        exact absurd H (by simp)
                                                    · rw [if_neg c44] at H
                                                      exact absurd H (by simp)
                                                  · rw [if_neg c43] at H
                                                    exact absurd H (by simp)
                                        · rw [if_neg c37] at H
                                          exact absurd H (by simp)
                                      · rw [if_neg c36] at H
                                        exact absurd H (by simp)
                                    · rw [if_neg c35] at H
                                      exact absurd H (by simp)
                                  · rw [if_neg c32] at H
                                    exact absurd H (by simp)
                                · rw [if_neg c31] at H
                                  exact absurd H (by simp)
                              · rw [if_neg c30] at H
                                exact absurd H (by simp)
                          · rw [if_neg c28] at H
                            have c28b0 : decide (x10_3 < (wrap64 ((a1.size : Int) - 6))) = false := decide_eq_false c28
                            clear c28
                            simp only [Option.some.injEq, Prod.mk.injEq] at H
                            obtain ⟨rfl, rfl⟩ := H
                            have hcv53 := own_string (P := Try.prog) Try.underlying22 Try.underlying5 Try.underlying9 (Kd.own_of_R HO_8.out)
                            go_wp2
                            go_ret2
                            exact ⟨by first | rfl | (simp [errW_none, errW_some] <;> rfl) | (simp only [← hji10]; first | rfl | (simp [errW_none, errW_some] <;> rfl)) | (simp [*, errW_none, errW_some] <;> rfl) | (exfalso; simp_all; done), by repeat (first | (with_reducible first | exact HB.out | apply below_alloc | apply pw_below_drewN | apply below_drew1) | exact HB.out)⟩
                    · rw [if_neg c22] at H
                      exact absurd H (by simp)
                  · rw [if_neg c21] at H
                    exact absurd H (by simp)
          · rw [if_neg c12] at H
            exact absurd H (by simp)
        · rw [if_neg c11] at H
          exact absurd H (by simp)

end Go.Proofs.Ytahibkfcohajcaa.QFnApplied
