/- The machine's side of a law, written by a program of this session for this claim. -/
import Derived.Test.YtahibkfcohajcaaQFnAddsx0
import Derived.Test.YtahibkfcohajcaaQFnAddsx1
import Derived.Test.YtahibkfcohajcaaQFnAddsx2
namespace Go.Proofs.Ytahibkfcohajcaa.QFnAdds
open Go.RowKit Go.Proofs.YtahibkfcohajcaaW.PrintWords Go.Proofs.YtahibkfcohajcaaW.PrintLast Go.Proofs.YtahibkfcohajcaaW.PrintMore
attribute [local go_sem] max2_int min2_int max_two min_two max_three min_three max_four min_four   -- for this text's walks alone
set_option linter.unusedVariables false
set_option linter.unusedSimpArgs false

/-! ### spec_l4Alu: function 78 -/
mutual
def spec_l4Alu.j0 : Nat → Int → Int → Int → Int → Int → Bool → Option (Int × Int)
  | 0, _, _, _, _, _, _ => none
  | k + 1, x0, x1, x2, x3, x10, x20 => if x20 = true then ((spec_l4Carry.f x3).bind fun t178 => (spec_l4Alu.j1 k x0 x1 x2 t178)) else (spec_l4Alu.j1 k x0 x1 x2 x10)
def spec_l4Alu.j1 : Nat → Int → Int → Int → Int → Option (Int × Int)
  | 0, _, _, _, _ => none
  | k + 1, x0, x1, x2, x10 => if x0 = 0 then (spec_l4Alu.j2 k x0 x1 x2 x10 x0 (x0 == 0)) else (spec_l4Alu.j2 k x0 x1 x2 x10 x0 (x0 == 1))
def spec_l4Alu.j2 : Nat → Int → Int → Int → Int → Int → Bool → Option (Int × Int)
  | 0, _, _, _, _, _, _ => none
  | k + 1, x0, x1, x2, x10, x23, x24 => if x24 = true then ((spec_l4Flags.f ((Int.tmod (wrap64 ((wrap64 (x1 + x2)) + x10)) 256) == 0) false (decide ((wrap64 ((wrap64 ((Int.tmod x1 16) + (Int.tmod x2 16))) + x10)) > 15)) (decide ((wrap64 ((wrap64 (x1 + x2)) + x10)) > 255))).bind fun t179 => (some (Int.tmod (wrap64 ((wrap64 (x1 + x2)) + x10)) 256, t179))) else (if x23 = 4 then ((spec_l4Flags.f ((Go.bits .and .i64 x1 x2) == 0) false true false).bind fun t180 => (some (Go.bits .and .i64 x1 x2, t180))) else (if x23 = 5 then ((spec_l4Flags.f (x1 == x2) false false false).bind fun t181 => (some (Go.bits .xor .i64 x1 x2, t181))) else (if x23 = 6 then ((spec_l4Flags.f ((Go.bits .or .i64 x1 x2) == 0) false false false).bind fun t182 => (some (Go.bits .or .i64 x1 x2, t182))) else ((spec_l4Flags.f ((Int.tmod (wrap64 ((wrap64 ((wrap64 (x1 - x2)) - x10)) + 512)) 256) == 0) true (decide ((Int.tmod x1 16) < (wrap64 ((Int.tmod x2 16) + x10)))) (decide ((wrap64 ((wrap64 (x1 - x2)) - x10)) < 0))).bind fun t183 => (if x0 = 7 then (some (x1, t183)) else (some (Int.tmod (wrap64 ((wrap64 ((wrap64 (x1 - x2)) - x10)) + 512)) 256, t183)))))))
end
def spec_l4Alu.f (k : Nat) (a0 : Int) (a1 : Int) (a2 : Int) (a3 : Int) : Option (Int × Int) := if a0 = 1 then (spec_l4Alu.j0 k a0 a1 a2 a3 0 true) else (spec_l4Alu.j0 k a0 a1 a2 a3 0 (a0 == 3))
theorem spec_l4Alu.mono_l : ∀ k, (∀ y0 y1 y2 y3 y4 y5, LeO (spec_l4Alu.j0 k y0 y1 y2 y3 y4 y5) (spec_l4Alu.j0 (k + 1) y0 y1 y2 y3 y4 y5)) ∧ (∀ y0 y1 y2 y3, LeO (spec_l4Alu.j1 k y0 y1 y2 y3) (spec_l4Alu.j1 (k + 1) y0 y1 y2 y3)) ∧ (∀ y0 y1 y2 y3 y4 y5, LeO (spec_l4Alu.j2 k y0 y1 y2 y3 y4 y5) (spec_l4Alu.j2 (k + 1) y0 y1 y2 y3 y4 y5))
  | 0 => ⟨fun _ _ _ _ _ _ r h => by simp [spec_l4Alu.j0] at h, fun _ _ _ _ r h => by simp [spec_l4Alu.j1] at h, fun _ _ _ _ _ _ r h => by simp [spec_l4Alu.j2] at h⟩
  | k + 1 => by
    obtain ⟨ih0, ih1, ih2⟩ := spec_l4Alu.mono_l k
    refine ⟨?_, ?_, ?_⟩
    · intro y0 y1 y2 y3 y4 y5
      unfold spec_l4Alu.j0
      repeat' first
      | (with_reducible exact ih0 _ _ _ _ _ _)
      | (with_reducible exact ih1 _ _ _ _)
      | (with_reducible exact ih2 _ _ _ _ _ _)
      | (with_reducible exact LeO.refl _)
      | (with_reducible exact LeO.none _)
      | (with_reducible refine LeO.ite ?_ ?_)
      | (with_reducible refine LeO.bind ?_ (fun _ => ?_))
      | exact ih0 _ _ _ _ _ _
      | exact ih1 _ _ _ _
      | exact ih2 _ _ _ _ _ _
      | exact LeO.none _
      | refine LeO.ite ?_ ?_
      | refine LeO.bind ?_ (fun _ => ?_)
    · intro y0 y1 y2 y3
      unfold spec_l4Alu.j1
      repeat' first
      | (with_reducible exact ih0 _ _ _ _ _ _)
      | (with_reducible exact ih1 _ _ _ _)
      | (with_reducible exact ih2 _ _ _ _ _ _)
      | (with_reducible exact LeO.refl _)
      | (with_reducible exact LeO.none _)
      | (with_reducible refine LeO.ite ?_ ?_)
      | (with_reducible refine LeO.bind ?_ (fun _ => ?_))
      | exact ih0 _ _ _ _ _ _
      | exact ih1 _ _ _ _
      | exact ih2 _ _ _ _ _ _
      | exact LeO.none _
      | refine LeO.ite ?_ ?_
      | refine LeO.bind ?_ (fun _ => ?_)
    · intro y0 y1 y2 y3 y4 y5
      unfold spec_l4Alu.j2
      repeat' first
      | (with_reducible exact ih0 _ _ _ _ _ _)
      | (with_reducible exact ih1 _ _ _ _)
      | (with_reducible exact ih2 _ _ _ _ _ _)
      | (with_reducible exact LeO.refl _)
      | (with_reducible exact LeO.none _)
      | (with_reducible refine LeO.ite ?_ ?_)
      | (with_reducible refine LeO.bind ?_ (fun _ => ?_))
      | exact ih0 _ _ _ _ _ _
      | exact ih1 _ _ _ _
      | exact ih2 _ _ _ _ _ _
      | exact LeO.none _
      | refine LeO.ite ?_ ?_
      | refine LeO.bind ?_ (fun _ => ?_)
theorem spec_l4Alu.mono : ∀ a0 a1 a2 a3 k, LeO (spec_l4Alu.f k a0 a1 a2 a3) (spec_l4Alu.f (k + 1) a0 a1 a2 a3) := by
  intro a0 a1 a2 a3 k
  obtain ⟨ih0, ih1, ih2⟩ := spec_l4Alu.mono_l k
  unfold spec_l4Alu.f
  repeat' first
      | (with_reducible exact ih0 _ _ _ _ _ _)
      | (with_reducible exact ih1 _ _ _ _)
      | (with_reducible exact ih2 _ _ _ _ _ _)
      | (with_reducible exact LeO.refl _)
      | (with_reducible exact LeO.none _)
      | (with_reducible refine LeO.ite ?_ ?_)
      | (with_reducible refine LeO.bind ?_ (fun _ => ?_))
      | exact ih0 _ _ _ _ _ _
      | exact ih1 _ _ _ _
      | exact ih2 _ _ _ _ _ _
      | exact LeO.none _
      | refine LeO.ite ?_ ?_
      | refine LeO.bind ?_ (fun _ => ?_)
set_option maxHeartbeats 8000000 in
set_option maxRecDepth 100000 in
theorem spec_l4Alu.calls (k : Nat) (a0 : Int) (a1 : Int) (a2 : Int) (a3 : Int) (r1 : Int) (r2 : Int) (w : World) (h : spec_l4Alu.f k a0 a1 a2 a3 = some (r1, r2)) :
    Calls Try.prog 78 #[.int .i64 a0, .int .i64 a1, .int .i64 a2, .int .i64 a3] w fun e w' => e = .returned (.tuple #[.int .i64 r1, .int .i64 r2]) ∧ Drawn0 w w' := by
  have H : (if a0 = 1 then (spec_l4Alu.j0 k a0 a1 a2 a3 0 true) else (spec_l4Alu.j0 k a0 a1 a2 a3 0 (a0 == 3))) = some (r1, r2) := h
  clear h
  have HC5 := Aside0.mk H
  clear H
  go_enter Try.func78, Try.ntmps78
  go_upto_region 2 with (fail)
  go_cut [20] (fun v20 wc => ∃ (kq : Nat) (x20_4 : Bool), v20 = .bool x20_4 ∧ Aside0 (spec_l4Alu.j0 kq a0 a1 a2 a3 0 x20_4 = some (r1, r2)) ∧ Aside0 (kq ≤ k) ∧ Drawn0 w wc)
  case first =>
    have H := HC5.out
    clear HC5
    by_cases c6 : a0 = 1
    · rw [if_pos c6] at H
      have c6b0 : (a0 == 1) = true := beq_iff_eq.mpr c6
      have c6b1 : (a0 != 1) = false := bne_eq_false_iff_eq.mpr c6
      clear c6
      (first | rw [c6b0] | (simp only [i64_w, i32_w]; rw [c6b0]) | skip)
      have H' := Aside0.mk H
      clear H
      go_wp2
      go_meet
      case rel => exact ⟨_, (true), (by first | rfl | (simp; done) | (simp [*]; done) | (simp; rfl) | (simp [*]; rfl)), H', ⟨by first | omega | exact Nat.le_refl _⟩, by repeat (first | exact Drawn0.refl _ | apply Drawn0.step)⟩
    · rw [if_neg c6] at H
      have c6b0 : (a0 == 1) = false := beq_eq_false_iff_ne.mpr c6
      have c6b1 : (a0 != 1) = true := bne_iff_ne.mpr c6
      (first | rw [c6b0] | (simp only [i64_w, i32_w]; rw [c6b0]) | skip)
      have H' := Aside0.mk H
      clear H
      go_wp2
      go_meet
      case rel => exact ⟨_, ((a0 == 3)), (by first | rfl | (simp; done) | (simp [*]; done) | (simp; rfl) | (simp [*]; rfl)), H', ⟨by first | omega | exact Nat.le_refl _⟩, by repeat (first | exact Drawn0.refl _ | apply Drawn0.step)⟩
  case rest =>
    clear HC5
    try clear p2
    try clear c6
    try clear c6b0
    try clear c6b1
    obtain ⟨kq, x20_4, rfl, HA, HJ4, ⟨mc4, rfl⟩⟩ := hcut
    cases kq with
    | zero => exact absurd HA.out (by simp [spec_l4Alu.j0])
    | succ kj4 =>
      have H := HA.out
      clear HA
      simp only [spec_l4Alu.j0] at H
      have HC7 := Aside0.mk H
      clear H
      go_upto_if 20 with (fail)
      go_cut [10] (fun v10 wc => ∃ (kq : Nat) (x10_6 : Int), v10 = .int .i64 x10_6 ∧ Aside0 (spec_l4Alu.j1 kq a0 a1 a2 x10_6 = some (r1, r2)) ∧ Aside0 (kq ≤ kj4) ∧ Drawn0 w wc)
      case first =>
        have H := HC7.out
        clear HC7
        by_cases c8 : x20_4 = true
        · subst c8
          have H1 : ((spec_l4Carry.f a3).bind fun t178 => (spec_l4Alu.j1 kj4 a0 a1 a2 t178)) = some (r1, r2) := by rw [if_pos rfl] at H; exact H
          clear H
          have H := H1
          clear H1
          replace H := Option.bind_eq_some_iff.mp H
          obtain ⟨t178, A90, H⟩ := H
          replace H : (spec_l4Alu.j1 kj4 a0 a1 a2 t178) = some (r1, r2) := H
          have A9 := Aside0.mk A90
          clear A90
          have H' := Aside0.mk H
          clear H
          go_wp2_with (first | ((with_reducible refine gate_callee (f := 68) rfl ?_); refine goesL_ (some 22) rfl rfl Try.func68 (by kernel_rfl) rfl #[.int .i64 a3] rfl (by (try simp only [List.map_toArray, List.map_cons, List.map_nil]); first | done | rfl | (simp only [List.length_drop, List.length_take]; rfl)) ?_; (with_reducible refine (spec_l4Carry.calls a3 t178 _ A9.out).mono ?_); rintro e w' ⟨rfl, ⟨nd, rfl⟩⟩; refine ⟨_, rfl, ?_⟩))
          go_meet
          case rel => exact ⟨_, (t178), (by first | rfl | (simp; done) | (simp [*]; done) | (simp; rfl) | (simp [*]; rfl)), H', ⟨by have := HJ4.out; first | omega | exact Nat.le_refl _⟩, by repeat (first | exact Drawn0.refl _ | apply Drawn0.step)⟩
        · replace c8 := Bool.eq_false_iff.mpr c8
          subst c8
          have H1 : (spec_l4Alu.j1 kj4 a0 a1 a2 0) = some (r1, r2) := by rw [if_neg (show ¬ (false = true) by decide)] at H; exact H
          clear H
          have H := H1
          clear H1
          have H' := Aside0.mk H
          clear H
          go_wp2
          go_meet
          case rel => exact ⟨_, (0), (by first | rfl | (simp; done) | (simp [*]; done) | (simp; rfl) | (simp [*]; rfl)), H', ⟨by have := HJ4.out; first | omega | exact Nat.le_refl _⟩, by repeat (first | exact Drawn0.refl _ | apply Drawn0.step)⟩
      case rest =>
        clear HC7
        try clear p2
        try clear c4
        try clear c6
        try clear c6b0
        try clear c6b1
        try clear c7
        try clear c8
        try clear p2
        obtain ⟨kq, x10_6, rfl, HA, HJ6, ⟨mc6, rfl⟩⟩ := hcut
        cases kq with
        | zero => exact absurd HA.out (by simp [spec_l4Alu.j1])
        | succ kj6 =>
          have H := HA.out
          clear HA
          simp only [spec_l4Alu.j1] at H
          have HC10 := Aside0.mk H
          clear H
          go_upto_if 24 with (fail)
          go_cut [24] (fun v24 wc => ∃ (kq : Nat) (x24_9 : Bool), v24 = .bool x24_9 ∧ Aside0 (spec_l4Alu.j2 kq a0 a1 a2 x10_6 a0 x24_9 = some (r1, r2)) ∧ Aside0 (kq ≤ kj6) ∧ Drawn0 w wc)
          case first =>
            have H := HC10.out
            clear HC10
            by_cases c11 : a0 = 0
            · rw [if_pos c11] at H
              have c11b0 : (a0 == 0) = true := beq_iff_eq.mpr c11
              have c11b1 : (a0 != 0) = false := bne_eq_false_iff_eq.mpr c11
              clear c11
              (first | rw [c11b0] | (simp only [i64_w, i32_w]; rw [c11b0]) | skip)
              have H' := Aside0.mk H
              clear H
              go_wp2
              go_meet
              case rel => exact ⟨_, ((a0 == 0)), (by first | rfl | (simp; done) | (simp [*]; done) | (simp; rfl) | (simp [*]; rfl)), H', ⟨by have := HJ4.out; have := HJ6.out; first | omega | exact Nat.le_refl _⟩, by repeat (first | exact Drawn0.refl _ | apply Drawn0.step)⟩
            · rw [if_neg c11] at H
              have c11b0 : (a0 == 0) = false := beq_eq_false_iff_ne.mpr c11
              have c11b1 : (a0 != 0) = true := bne_iff_ne.mpr c11
              (first | rw [c11b0] | (simp only [i64_w, i32_w]; rw [c11b0]) | skip)
              have H' := Aside0.mk H
              clear H
              go_wp2
              go_meet
              case rel => exact ⟨_, ((a0 == 1)), (by first | rfl | (simp; done) | (simp [*]; done) | (simp; rfl) | (simp [*]; rfl)), H', ⟨by have := HJ4.out; have := HJ6.out; first | omega | exact Nat.le_refl _⟩, by repeat (first | exact Drawn0.refl _ | apply Drawn0.step)⟩
          case rest =>
            clear HC10
            try clear c1
            try clear p2
            try clear c4
            try clear c6
            try clear c6b0
            try clear c6b1
            try clear c7
            try clear c8
            try clear c11
            try clear c11b0
            try clear c11b1
            try clear p2
            obtain ⟨kq, x24_9, rfl, HA, HJ9, ⟨mc9, rfl⟩⟩ := hcut
            cases kq with
            | zero => exact absurd HA.out (by simp [spec_l4Alu.j2])
            | succ kj9 =>
              have H := HA.out
              clear HA
              simp only [spec_l4Alu.j2] at H
              by_cases c12 : x24_9 = true
              · subst c12
                have H1 : ((spec_l4Flags.f ((Int.tmod (wrap64 ((wrap64 (a1 + a2)) + x10_6)) 256) == 0) false (decide ((wrap64 ((wrap64 ((Int.tmod a1 16) + (Int.tmod a2 16))) + x10_6)) > 15)) (decide ((wrap64 ((wrap64 (a1 + a2)) + x10_6)) > 255))).bind fun t179 => (some (Int.tmod (wrap64 ((wrap64 (a1 + a2)) + x10_6)) 256, t179))) = some (r1, r2) := by rw [if_pos rfl] at H; exact H
                clear H
                have H := H1
                clear H1
                replace H := Option.bind_eq_some_iff.mp H
                obtain ⟨t179, A130, H⟩ := H
                replace H : (some (Int.tmod (wrap64 ((wrap64 (a1 + a2)) + x10_6)) 256, t179)) = some (r1, r2) := H
                have A13 := Aside0.mk A130
                clear A130
                simp only [Option.some.injEq, Prod.mk.injEq] at H
                obtain ⟨rfl, rfl⟩ := H
                go_wp2_with (first | ((with_reducible refine gate_callee (f := 69) rfl ?_); refine goesL_ (some 47) rfl rfl Try.func69 (by kernel_rfl) rfl #[.bool ((Int.tmod (wrap64 ((wrap64 (a1 + a2)) + x10_6)) 256) == 0), .bool false, .bool (decide ((wrap64 ((wrap64 ((Int.tmod a1 16) + (Int.tmod a2 16))) + x10_6)) > 15)), .bool (decide ((wrap64 ((wrap64 (a1 + a2)) + x10_6)) > 255))] rfl (by (try simp only [List.map_toArray, List.map_cons, List.map_nil]); first | done | rfl | (simp only [List.length_drop, List.length_take]; rfl)) ?_; (with_reducible refine (spec_l4Flags.calls ((Int.tmod (wrap64 ((wrap64 (a1 + a2)) + x10_6)) 256) == 0) false (decide ((wrap64 ((wrap64 ((Int.tmod a1 16) + (Int.tmod a2 16))) + x10_6)) > 15)) (decide ((wrap64 ((wrap64 (a1 + a2)) + x10_6)) > 255)) t179 _ A13.out).mono ?_); rintro e w' ⟨rfl, ⟨nd, rfl⟩⟩; refine ⟨_, rfl, ?_⟩))
                go_ret2
                exact ⟨by first | rfl | (simp; done) | (simp [*]; done) | (simp; rfl) | (simp [*]; rfl), by repeat (first | exact Drawn0.refl _ | apply Drawn0.step)⟩
              · replace c12 := Bool.eq_false_iff.mpr c12
                subst c12
                have H1 : (if a0 = 4 then ((spec_l4Flags.f ((Go.bits .and .i64 a1 a2) == 0) false true false).bind fun t180 => (some (Go.bits .and .i64 a1 a2, t180))) else (if a0 = 5 then ((spec_l4Flags.f (a1 == a2) false false false).bind fun t181 => (some (Go.bits .xor .i64 a1 a2, t181))) else (if a0 = 6 then ((spec_l4Flags.f ((Go.bits .or .i64 a1 a2) == 0) false false false).bind fun t182 => (some (Go.bits .or .i64 a1 a2, t182))) else ((spec_l4Flags.f ((Int.tmod (wrap64 ((wrap64 ((wrap64 (a1 - a2)) - x10_6)) + 512)) 256) == 0) true (decide ((Int.tmod a1 16) < (wrap64 ((Int.tmod a2 16) + x10_6)))) (decide ((wrap64 ((wrap64 (a1 - a2)) - x10_6)) < 0))).bind fun t183 => (if a0 = 7 then (some (a1, t183)) else (some (Int.tmod (wrap64 ((wrap64 ((wrap64 (a1 - a2)) - x10_6)) + 512)) 256, t183))))))) = some (r1, r2) := by rw [if_neg (show ¬ (false = true) by decide)] at H; exact H
                clear H
                have H := H1
                clear H1
                by_cases c14 : a0 = 4
                · rw [if_pos c14] at H
                  have c14b0 : (a0 == 4) = true := beq_iff_eq.mpr c14
                  have c14b1 : (a0 != 4) = false := bne_eq_false_iff_eq.mpr c14
                  clear c14
                  replace H := Option.bind_eq_some_iff.mp H
                  obtain ⟨t180, A150, H⟩ := H
                  replace H : (some (Go.bits .and .i64 a1 a2, t180)) = some (r1, r2) := H
                  have A15 := Aside0.mk A150
                  clear A150
                  simp only [Option.some.injEq, Prod.mk.injEq] at H
                  obtain ⟨rfl, rfl⟩ := H
                  go_wp2_with (first | ((with_reducible refine gate_callee (f := 69) rfl ?_); refine goesL_ (some 57) rfl rfl Try.func69 (by kernel_rfl) rfl #[.bool ((Go.bits .and .i64 a1 a2) == 0), .bool false, .bool true, .bool false] rfl (by (try simp only [List.map_toArray, List.map_cons, List.map_nil]); first | done | rfl | (simp only [List.length_drop, List.length_take]; rfl)) ?_; (with_reducible refine (spec_l4Flags.calls ((Go.bits .and .i64 a1 a2) == 0) false true false t180 _ A15.out).mono ?_); rintro e w' ⟨rfl, ⟨nd, rfl⟩⟩; refine ⟨_, rfl, ?_⟩))
                  go_ret2
                  exact ⟨by first | rfl | (simp; done) | (simp [*]; done) | (simp; rfl) | (simp [*]; rfl), by repeat (first | exact Drawn0.refl _ | apply Drawn0.step)⟩
                · rw [if_neg c14] at H
                  have c14b0 : (a0 == 4) = false := beq_eq_false_iff_ne.mpr c14
                  have c14b1 : (a0 != 4) = true := bne_iff_ne.mpr c14
                  by_cases c16 : a0 = 5
                  · rw [if_pos c16] at H
                    have c16b0 : (a0 == 5) = true := beq_iff_eq.mpr c16
                    have c16b1 : (a0 != 5) = false := bne_eq_false_iff_eq.mpr c16
                    clear c16
                    replace H := Option.bind_eq_some_iff.mp H
                    obtain ⟨t181, A170, H⟩ := H
                    replace H : (some (Go.bits .xor .i64 a1 a2, t181)) = some (r1, r2) := H
                    have A17 := Aside0.mk A170
                    clear A170
                    simp only [Option.some.injEq, Prod.mk.injEq] at H
                    obtain ⟨rfl, rfl⟩ := H
                    go_wp2_with (first | ((with_reducible refine gate_callee (f := 69) rfl ?_); refine goesL_ (some 66) rfl rfl Try.func69 (by kernel_rfl) rfl #[.bool (a1 == a2), .bool false, .bool false, .bool false] rfl (by (try simp only [List.map_toArray, List.map_cons, List.map_nil]); first | done | rfl | (simp only [List.length_drop, List.length_take]; rfl)) ?_; (with_reducible refine (spec_l4Flags.calls (a1 == a2) false false false t181 _ A17.out).mono ?_); rintro e w' ⟨rfl, ⟨nd, rfl⟩⟩; refine ⟨_, rfl, ?_⟩))
                    go_ret2
                    exact ⟨by first | rfl | (simp; done) | (simp [*]; done) | (simp; rfl) | (simp [*]; rfl), by repeat (first | exact Drawn0.refl _ | apply Drawn0.step)⟩
                  · rw [if_neg c16] at H
                    have c16b0 : (a0 == 5) = false := beq_eq_false_iff_ne.mpr c16
                    have c16b1 : (a0 != 5) = true := bne_iff_ne.mpr c16
                    by_cases c18 : a0 = 6
                    · rw [if_pos c18] at H
                      have c18b0 : (a0 == 6) = true := beq_iff_eq.mpr c18
                      have c18b1 : (a0 != 6) = false := bne_eq_false_iff_eq.mpr c18
                      clear c18
                      replace H := Option.bind_eq_some_iff.mp H
                      obtain ⟨t182, A190, H⟩ := H
                      replace H : (some (Go.bits .or .i64 a1 a2, t182)) = some (r1, r2) := H
                      have A19 := Aside0.mk A190
                      clear A190
                      simp only [Option.some.injEq, Prod.mk.injEq] at H
                      obtain ⟨rfl, rfl⟩ := H
                      go_wp2_with (first | ((with_reducible refine gate_callee (f := 69) rfl ?_); refine goesL_ (some 76) rfl rfl Try.func69 (by kernel_rfl) rfl #[.bool ((Go.bits .or .i64 a1 a2) == 0), .bool false, .bool false, .bool false] rfl (by (try simp only [List.map_toArray, List.map_cons, List.map_nil]); first | done | rfl | (simp only [List.length_drop, List.length_take]; rfl)) ?_; (with_reducible refine (spec_l4Flags.calls ((Go.bits .or .i64 a1 a2) == 0) false false false t182 _ A19.out).mono ?_); rintro e w' ⟨rfl, ⟨nd, rfl⟩⟩; refine ⟨_, rfl, ?_⟩))
                      go_ret2
                      exact ⟨by first | rfl | (simp; done) | (simp [*]; done) | (simp; rfl) | (simp [*]; rfl), by repeat (first | exact Drawn0.refl _ | apply Drawn0.step)⟩
                    · rw [if_neg c18] at H
                      have c18b0 : (a0 == 6) = false := beq_eq_false_iff_ne.mpr c18
                      have c18b1 : (a0 != 6) = true := bne_iff_ne.mpr c18
                      replace H := Option.bind_eq_some_iff.mp H
                      obtain ⟨t183, A200, H⟩ := H
                      replace H : (if a0 = 7 then (some (a1, t183)) else (some (Int.tmod (wrap64 ((wrap64 ((wrap64 (a1 - a2)) - x10_6)) + 512)) 256, t183))) = some (r1, r2) := H
                      have A20 := Aside0.mk A200
                      clear A200
                      by_cases c21 : a0 = 7
                      · rw [if_pos c21] at H
                        have c21b0 : (a0 == 7) = true := beq_iff_eq.mpr c21
                        have c21b1 : (a0 != 7) = false := bne_eq_false_iff_eq.mpr c21
                        clear c21
                        simp only [Option.some.injEq, Prod.mk.injEq] at H
                        obtain ⟨rfl, rfl⟩ := H
                        go_wp2_with (first | ((with_reducible refine gate_callee (f := 69) rfl ?_); refine goesL_ (some 96) rfl rfl Try.func69 (by kernel_rfl) rfl #[.bool ((Int.tmod (wrap64 ((wrap64 ((wrap64 (a1 - a2)) - x10_6)) + 512)) 256) == 0), .bool true, .bool (decide ((Int.tmod a1 16) < (wrap64 ((Int.tmod a2 16) + x10_6)))), .bool (decide ((wrap64 ((wrap64 (a1 - a2)) - x10_6)) < 0))] rfl (by (try simp only [List.map_toArray, List.map_cons, List.map_nil]); first | done | rfl | (simp only [List.length_drop, List.length_take]; rfl)) ?_; (with_reducible refine (spec_l4Flags.calls ((Int.tmod (wrap64 ((wrap64 ((wrap64 (a1 - a2)) - x10_6)) + 512)) 256) == 0) true (decide ((Int.tmod a1 16) < (wrap64 ((Int.tmod a2 16) + x10_6)))) (decide ((wrap64 ((wrap64 (a1 - a2)) - x10_6)) < 0)) t183 _ A20.out).mono ?_); rintro e w' ⟨rfl, ⟨nd, rfl⟩⟩; refine ⟨_, rfl, ?_⟩))
                        go_ret2
                        exact ⟨by first | rfl | (simp; done) | (simp [*]; done) | (simp; rfl) | (simp [*]; rfl), by repeat (first | exact Drawn0.refl _ | apply Drawn0.step)⟩
                      · rw [if_neg c21] at H
                        have c21b0 : (a0 == 7) = false := beq_eq_false_iff_ne.mpr c21
                        have c21b1 : (a0 != 7) = true := bne_iff_ne.mpr c21
                        simp only [Option.some.injEq, Prod.mk.injEq] at H
                        obtain ⟨rfl, rfl⟩ := H
                        go_wp2_with (first | ((with_reducible refine gate_callee (f := 69) rfl ?_); refine goesL_ (some 96) rfl rfl Try.func69 (by kernel_rfl) rfl #[.bool ((Int.tmod (wrap64 ((wrap64 ((wrap64 (a1 - a2)) - x10_6)) + 512)) 256) == 0), .bool true, .bool (decide ((Int.tmod a1 16) < (wrap64 ((Int.tmod a2 16) + x10_6)))), .bool (decide ((wrap64 ((wrap64 (a1 - a2)) - x10_6)) < 0))] rfl (by (try simp only [List.map_toArray, List.map_cons, List.map_nil]); first | done | rfl | (simp only [List.length_drop, List.length_take]; rfl)) ?_; (with_reducible refine (spec_l4Flags.calls ((Int.tmod (wrap64 ((wrap64 ((wrap64 (a1 - a2)) - x10_6)) + 512)) 256) == 0) true (decide ((Int.tmod a1 16) < (wrap64 ((Int.tmod a2 16) + x10_6)))) (decide ((wrap64 ((wrap64 (a1 - a2)) - x10_6)) < 0)) t183 _ A20.out).mono ?_); rintro e w' ⟨rfl, ⟨nd, rfl⟩⟩; refine ⟨_, rfl, ?_⟩))
                        go_ret2
                        exact ⟨by first | rfl | (simp; done) | (simp [*]; done) | (simp; rfl) | (simp [*]; rfl), by repeat (first | exact Drawn0.refl _ | apply Drawn0.step)⟩

/-! ### spec_Alu: function 37 -/
def spec_Alu.f (k : Nat) (a0 : Int) (a1 : Int) (a2 : Int) (a3 : Int) : Option (Int × Int) := (spec_l1In.f a0 0 7).bind fun t184 => (if t184 = true then ((spec_l4Byte.f a1).bind fun t185 => (if t185 = true then ((spec_l4Byte.f a2).bind fun t186 => (if t186 = true then ((spec_l4Byte.f a3).bind fun t187 => (if t187 = true then ((spec_l4Alu.f k a0 a1 a2 a3).bind fun bt188 => (some (bt188.1, bt188.2))) else (some (0, 0)))) else (some (0, 0)))) else (some (0, 0)))) else (some (0, 0)))
theorem spec_Alu.mono : ∀ a0 a1 a2 a3 k, LeO (spec_Alu.f k a0 a1 a2 a3) (spec_Alu.f (k + 1) a0 a1 a2 a3) := by
  intro a0 a1 a2 a3 k
  unfold spec_Alu.f
  repeat' first
      | (with_reducible exact spec_l4Alu.mono _ _ _ _ _)
      | (with_reducible exact LeO.refl _)
      | (with_reducible exact LeO.none _)
      | (with_reducible refine LeO.ite ?_ ?_)
      | (with_reducible refine LeO.bind ?_ (fun _ => ?_))
      | exact spec_l4Alu.mono _ _ _ _ _
      | exact LeO.none _
      | refine LeO.ite ?_ ?_
      | refine LeO.bind ?_ (fun _ => ?_)
set_option maxHeartbeats 8000000 in
set_option maxRecDepth 100000 in
theorem spec_Alu.calls (k : Nat) (a0 : Int) (a1 : Int) (a2 : Int) (a3 : Int) (r1 : Int) (r2 : Int) (w : World) (h : spec_Alu.f k a0 a1 a2 a3 = some (r1, r2)) :
    Calls Try.prog 37 #[.int .i64 a0, .int .i64 a1, .int .i64 a2, .int .i64 a3] w fun e w' => e = .returned (.tuple #[.int .i64 r1, .int .i64 r2]) ∧ Drawn0 w w' := by
  have H : ((spec_l1In.f a0 0 7).bind fun t184 => (if t184 = true then ((spec_l4Byte.f a1).bind fun t185 => (if t185 = true then ((spec_l4Byte.f a2).bind fun t186 => (if t186 = true then ((spec_l4Byte.f a3).bind fun t187 => (if t187 = true then ((spec_l4Alu.f k a0 a1 a2 a3).bind fun bt188 => (some (bt188.1, bt188.2))) else (some (0, 0)))) else (some (0, 0)))) else (some (0, 0)))) else (some (0, 0)))) = some (r1, r2) := h
  clear h
  replace H := Option.bind_eq_some_iff.mp H
  obtain ⟨t184, A50, H⟩ := H
  replace H : (if t184 = true then ((spec_l4Byte.f a1).bind fun t185 => (if t185 = true then ((spec_l4Byte.f a2).bind fun t186 => (if t186 = true then ((spec_l4Byte.f a3).bind fun t187 => (if t187 = true then ((spec_l4Alu.f k a0 a1 a2 a3).bind fun bt188 => (some (bt188.1, bt188.2))) else (some (0, 0)))) else (some (0, 0)))) else (some (0, 0)))) else (some (0, 0))) = some (r1, r2) := H
  have A5 := Aside0.mk A50
  clear A50
  by_cases c6 : t184 = true
  · subst c6
    have H1 : ((spec_l4Byte.f a1).bind fun t185 => (if t185 = true then ((spec_l4Byte.f a2).bind fun t186 => (if t186 = true then ((spec_l4Byte.f a3).bind fun t187 => (if t187 = true then ((spec_l4Alu.f k a0 a1 a2 a3).bind fun bt188 => (some (bt188.1, bt188.2))) else (some (0, 0)))) else (some (0, 0)))) else (some (0, 0)))) = some (r1, r2) := by rw [if_pos rfl] at H; exact H
    clear H
    have H := H1
    clear H1
    replace H := Option.bind_eq_some_iff.mp H
    obtain ⟨t185, A70, H⟩ := H
    replace H : (if t185 = true then ((spec_l4Byte.f a2).bind fun t186 => (if t186 = true then ((spec_l4Byte.f a3).bind fun t187 => (if t187 = true then ((spec_l4Alu.f k a0 a1 a2 a3).bind fun bt188 => (some (bt188.1, bt188.2))) else (some (0, 0)))) else (some (0, 0)))) else (some (0, 0))) = some (r1, r2) := H
    have A7 := Aside0.mk A70
    clear A70
    by_cases c8 : t185 = true
    · subst c8
      have H1 : ((spec_l4Byte.f a2).bind fun t186 => (if t186 = true then ((spec_l4Byte.f a3).bind fun t187 => (if t187 = true then ((spec_l4Alu.f k a0 a1 a2 a3).bind fun bt188 => (some (bt188.1, bt188.2))) else (some (0, 0)))) else (some (0, 0)))) = some (r1, r2) := by rw [if_pos rfl] at H; exact H
      clear H
      have H := H1
      clear H1
      replace H := Option.bind_eq_some_iff.mp H
      obtain ⟨t186, A90, H⟩ := H
      replace H : (if t186 = true then ((spec_l4Byte.f a3).bind fun t187 => (if t187 = true then ((spec_l4Alu.f k a0 a1 a2 a3).bind fun bt188 => (some (bt188.1, bt188.2))) else (some (0, 0)))) else (some (0, 0))) = some (r1, r2) := H
      have A9 := Aside0.mk A90
      clear A90
      by_cases c10 : t186 = true
      · subst c10
        have H1 : ((spec_l4Byte.f a3).bind fun t187 => (if t187 = true then ((spec_l4Alu.f k a0 a1 a2 a3).bind fun bt188 => (some (bt188.1, bt188.2))) else (some (0, 0)))) = some (r1, r2) := by rw [if_pos rfl] at H; exact H
        clear H
        have H := H1
        clear H1
        replace H := Option.bind_eq_some_iff.mp H
        obtain ⟨t187, A110, H⟩ := H
        replace H : (if t187 = true then ((spec_l4Alu.f k a0 a1 a2 a3).bind fun bt188 => (some (bt188.1, bt188.2))) else (some (0, 0))) = some (r1, r2) := H
        have A11 := Aside0.mk A110
        clear A110
        by_cases c12 : t187 = true
        · subst c12
          have H1 : ((spec_l4Alu.f k a0 a1 a2 a3).bind fun bt188 => (some (bt188.1, bt188.2))) = some (r1, r2) := by rw [if_pos rfl] at H; exact H
          clear H
          have H := H1
          clear H1
          replace H := Option.bind_eq_some_iff.mp H
          obtain ⟨⟨t188, t189⟩, A130, H⟩ := H
          replace H : (some (t188, t189)) = some (r1, r2) := H
          have A13 := Aside0.mk A130
          clear A130
          simp only [Option.some.injEq, Prod.mk.injEq] at H
          obtain ⟨rfl, rfl⟩ := H
          go_enter Try.func37, Try.ntmps37
          go_wp2_with (first | ((with_reducible refine gate_callee (f := 59) rfl ?_); refine goesL_ (some 11) rfl rfl Try.func59 (by kernel_rfl) rfl #[.int .i64 a0, .int .i64 0, .int .i64 7] rfl (by (try simp only [List.map_toArray, List.map_cons, List.map_nil]); first | done | rfl | (simp only [List.length_drop, List.length_take]; rfl)) ?_; (with_reducible refine (spec_l1In.calls a0 0 7 true _ A5.out).mono ?_); rintro e w' ⟨rfl, ⟨nd, rfl⟩⟩; refine ⟨_, rfl, ?_⟩) | (go_at_call 67; (with_reducible refine (spec_l4Byte.calls a1 true _ A7.out).mono ?_); rintro e w' ⟨rfl, ⟨nd, rfl⟩⟩) | (go_at_call 67; (with_reducible refine (spec_l4Byte.calls a2 true _ A9.out).mono ?_); rintro e w' ⟨rfl, ⟨nd, rfl⟩⟩) | (go_at_call 67; (with_reducible refine (spec_l4Byte.calls a3 true _ A11.out).mono ?_); rintro e w' ⟨rfl, ⟨nd, rfl⟩⟩) | ((with_reducible refine gate_callee (f := 78) rfl ?_); refine goesL_ (some 32) rfl rfl Try.func78 (by kernel_rfl) rfl #[.int .i64 a0, .int .i64 a1, .int .i64 a2, .int .i64 a3] rfl (by (try simp only [List.map_toArray, List.map_cons, List.map_nil]); first | done | rfl | (simp only [List.length_drop, List.length_take]; rfl)) ?_; (with_reducible refine (spec_l4Alu.calls k a0 a1 a2 a3 t188 t189 _ A13.out).mono ?_); rintro e w' ⟨rfl, ⟨nd, rfl⟩⟩; refine ⟨_, rfl, ?_⟩))
          go_ret2
          exact ⟨by first | rfl | (simp; done) | (simp [*]; done) | (simp; rfl) | (simp [*]; rfl), by repeat (first | exact Drawn0.refl _ | apply Drawn0.step)⟩
        · replace c12 := Bool.eq_false_iff.mpr c12
          subst c12
          have H1 : (some (0, 0)) = some (r1, r2) := by rw [if_neg (show ¬ (false = true) by decide)] at H; exact H
          clear H
          have H := H1
          clear H1
          simp only [Option.some.injEq, Prod.mk.injEq] at H
          obtain ⟨rfl, rfl⟩ := H
          go_enter Try.func37, Try.ntmps37
          go_wp2_with (first | ((with_reducible refine gate_callee (f := 59) rfl ?_); refine goesL_ (some 11) rfl rfl Try.func59 (by kernel_rfl) rfl #[.int .i64 a0, .int .i64 0, .int .i64 7] rfl (by (try simp only [List.map_toArray, List.map_cons, List.map_nil]); first | done | rfl | (simp only [List.length_drop, List.length_take]; rfl)) ?_; (with_reducible refine (spec_l1In.calls a0 0 7 true _ A5.out).mono ?_); rintro e w' ⟨rfl, ⟨nd, rfl⟩⟩; refine ⟨_, rfl, ?_⟩) | (go_at_call 67; (with_reducible refine (spec_l4Byte.calls a1 true _ A7.out).mono ?_); rintro e w' ⟨rfl, ⟨nd, rfl⟩⟩) | (go_at_call 67; (with_reducible refine (spec_l4Byte.calls a2 true _ A9.out).mono ?_); rintro e w' ⟨rfl, ⟨nd, rfl⟩⟩) | (go_at_call 67; (with_reducible refine (spec_l4Byte.calls a3 false _ A11.out).mono ?_); rintro e w' ⟨rfl, ⟨nd, rfl⟩⟩))
          go_ret2
          exact ⟨by first | rfl | (simp; done) | (simp [*]; done) | (simp; rfl) | (simp [*]; rfl), by repeat (first | exact Drawn0.refl _ | apply Drawn0.step)⟩
      · replace c10 := Bool.eq_false_iff.mpr c10
        subst c10
        have H1 : (some (0, 0)) = some (r1, r2) := by rw [if_neg (show ¬ (false = true) by decide)] at H; exact H
        clear H
        have H := H1
        clear H1
        simp only [Option.some.injEq, Prod.mk.injEq] at H
        obtain ⟨rfl, rfl⟩ := H
        go_enter Try.func37, Try.ntmps37
        go_wp2_with (first | ((with_reducible refine gate_callee (f := 59) rfl ?_); refine goesL_ (some 11) rfl rfl Try.func59 (by kernel_rfl) rfl #[.int .i64 a0, .int .i64 0, .int .i64 7] rfl (by (try simp only [List.map_toArray, List.map_cons, List.map_nil]); first | done | rfl | (simp only [List.length_drop, List.length_take]; rfl)) ?_; (with_reducible refine (spec_l1In.calls a0 0 7 true _ A5.out).mono ?_); rintro e w' ⟨rfl, ⟨nd, rfl⟩⟩; refine ⟨_, rfl, ?_⟩) | (go_at_call 67; (with_reducible refine (spec_l4Byte.calls a1 true _ A7.out).mono ?_); rintro e w' ⟨rfl, ⟨nd, rfl⟩⟩) | (go_at_call 67; (with_reducible refine (spec_l4Byte.calls a2 false _ A9.out).mono ?_); rintro e w' ⟨rfl, ⟨nd, rfl⟩⟩))
        go_ret2
        exact ⟨by first | rfl | (simp; done) | (simp [*]; done) | (simp; rfl) | (simp [*]; rfl), by repeat (first | exact Drawn0.refl _ | apply Drawn0.step)⟩
    · replace c8 := Bool.eq_false_iff.mpr c8
      subst c8
      have H1 : (some (0, 0)) = some (r1, r2) := by rw [if_neg (show ¬ (false = true) by decide)] at H; exact H
      clear H
      have H := H1
      clear H1
      simp only [Option.some.injEq, Prod.mk.injEq] at H
      obtain ⟨rfl, rfl⟩ := H
      go_enter Try.func37, Try.ntmps37
      go_wp2_with (first | ((with_reducible refine gate_callee (f := 59) rfl ?_); refine goesL_ (some 11) rfl rfl Try.func59 (by kernel_rfl) rfl #[.int .i64 a0, .int .i64 0, .int .i64 7] rfl (by (try simp only [List.map_toArray, List.map_cons, List.map_nil]); first | done | rfl | (simp only [List.length_drop, List.length_take]; rfl)) ?_; (with_reducible refine (spec_l1In.calls a0 0 7 true _ A5.out).mono ?_); rintro e w' ⟨rfl, ⟨nd, rfl⟩⟩; refine ⟨_, rfl, ?_⟩) | (go_at_call 67; (with_reducible refine (spec_l4Byte.calls a1 false _ A7.out).mono ?_); rintro e w' ⟨rfl, ⟨nd, rfl⟩⟩))
      go_ret2
      exact ⟨by first | rfl | (simp; done) | (simp [*]; done) | (simp; rfl) | (simp [*]; rfl), by repeat (first | exact Drawn0.refl _ | apply Drawn0.step)⟩
  · replace c6 := Bool.eq_false_iff.mpr c6
    subst c6
    have H1 : (some (0, 0)) = some (r1, r2) := by rw [if_neg (show ¬ (false = true) by decide)] at H; exact H
    clear H
    have H := H1
    clear H1
    simp only [Option.some.injEq, Prod.mk.injEq] at H
    obtain ⟨rfl, rfl⟩ := H
    go_enter Try.func37, Try.ntmps37
    go_wp2_with (first | ((with_reducible refine gate_callee (f := 59) rfl ?_); refine goesL_ (some 11) rfl rfl Try.func59 (by kernel_rfl) rfl #[.int .i64 a0, .int .i64 0, .int .i64 7] rfl (by (try simp only [List.map_toArray, List.map_cons, List.map_nil]); first | done | rfl | (simp only [List.length_drop, List.length_take]; rfl)) ?_; (with_reducible refine (spec_l1In.calls a0 0 7 false _ A5.out).mono ?_); rintro e w' ⟨rfl, ⟨nd, rfl⟩⟩; refine ⟨_, rfl, ?_⟩))
    go_ret2
    exact ⟨by first | rfl | (simp; done) | (simp [*]; done) | (simp; rfl) | (simp [*]; rfl), by repeat (first | exact Drawn0.refl _ | apply Drawn0.step)⟩

/-! ### laws_FnAdds: function 8 -/
def laws_FnAdds.j0 : Nat → Int → Int → Int → Int → Int → Int → Int → Int → Bool → Option (Bool)
  | 0, _, _, _, _, _, _, _, _, _ => none
  | k + 1, x3, x4, x5, x6, x7, x8, x9, x10, x78 => if x78 = true then (if x7 = x9 then (some (x8 == x10)) else (some false)) else (if x3 = 1 then ((impl_Alu.f k 0 x4 0 x6).bind fun bt199 => (if (wrap64 (x7 + (wrap64 (256 * (Int.tmod (wrap64 (Int.tdiv x8 16)) 2))))) = (wrap64 ((wrap64 (x4 + x5)) + (Int.tmod (wrap64 (Int.tdiv x6 16)) 2))) then (if ((decide (x8 ≥ 128)) == (x7 == 0)) = true then (if (Int.tmod (wrap64 (Int.tdiv x8 64)) 2) = 0 then (some (bt199.1 == x4)) else (some false)) else (some false)) else (some false))) else ((impl_Alu.f k 0 x4 0 x6).bind fun bt201 => (if (wrap64 (x7 + (wrap64 (256 * (Int.tmod (wrap64 (Int.tdiv x8 16)) 2))))) = (wrap64 (wrap64 (x4 + x5))) then (if ((decide (x8 ≥ 128)) == (x7 == 0)) = true then (if (Int.tmod (wrap64 (Int.tdiv x8 64)) 2) = 0 then (some (bt201.1 == x4)) else (some false)) else (some false)) else (some false))))
def laws_FnAdds.f (k : Nat) (l0 : List Int) : Option (Bool) := (laws_big.f l0).bind fun t190 => (if t190 = true then (some true) else ((spec_DrawAlu.f k l0).bind fun bt191 => ((impl_Alu.f k bt191.1 bt191.2.1 bt191.2.2.1 bt191.2.2.2).bind fun bt195 => ((spec_Alu.f k bt191.1 bt191.2.1 bt191.2.2.1 bt191.2.2.2).bind fun bt197 => (if bt195.1 = bt197.1 then (if bt195.2 = bt197.2 then (if bt191.1 > 1 then (laws_FnAdds.j0 k bt191.1 bt191.2.1 bt191.2.2.1 bt191.2.2.2 bt195.1 bt195.2 bt197.1 bt197.2 true) else (if bt191.1 < 0 then (laws_FnAdds.j0 k bt191.1 bt191.2.1 bt191.2.2.1 bt191.2.2.2 bt195.1 bt195.2 bt197.1 bt197.2 true) else (if bt191.2.1 < 0 then (laws_FnAdds.j0 k bt191.1 bt191.2.1 bt191.2.2.1 bt191.2.2.2 bt195.1 bt195.2 bt197.1 bt197.2 true) else (if bt191.2.1 > 255 then (laws_FnAdds.j0 k bt191.1 bt191.2.1 bt191.2.2.1 bt191.2.2.2 bt195.1 bt195.2 bt197.1 bt197.2 true) else (if bt191.2.2.1 < 0 then (laws_FnAdds.j0 k bt191.1 bt191.2.1 bt191.2.2.1 bt191.2.2.2 bt195.1 bt195.2 bt197.1 bt197.2 true) else (if bt191.2.2.1 > 255 then (laws_FnAdds.j0 k bt191.1 bt191.2.1 bt191.2.2.1 bt191.2.2.2 bt195.1 bt195.2 bt197.1 bt197.2 true) else (if bt191.2.2.2 < 0 then (laws_FnAdds.j0 k bt191.1 bt191.2.1 bt191.2.2.1 bt191.2.2.2 bt195.1 bt195.2 bt197.1 bt197.2 true) else (laws_FnAdds.j0 k bt191.1 bt191.2.1 bt191.2.2.1 bt191.2.2.2 bt195.1 bt195.2 bt197.1 bt197.2 (decide (bt191.2.2.2 > 255)))))))))) else (laws_FnAdds.j0 k bt191.1 bt191.2.1 bt191.2.2.1 bt191.2.2.2 bt195.1 bt195.2 bt197.1 bt197.2 true)) else (laws_FnAdds.j0 k bt191.1 bt191.2.1 bt191.2.2.1 bt191.2.2.2 bt195.1 bt195.2 bt197.1 bt197.2 true))))))
theorem laws_FnAdds.mono_l : ∀ k, (∀ y0 y1 y2 y3 y4 y5 y6 y7 y8, LeO (laws_FnAdds.j0 k y0 y1 y2 y3 y4 y5 y6 y7 y8) (laws_FnAdds.j0 (k + 1) y0 y1 y2 y3 y4 y5 y6 y7 y8))
  | 0 => fun _ _ _ _ _ _ _ _ _ r h => by simp [laws_FnAdds.j0] at h
  | k + 1 => by
    have ih0 := laws_FnAdds.mono_l k
    · intro y0 y1 y2 y3 y4 y5 y6 y7 y8
      unfold laws_FnAdds.j0
      repeat' first
      | (with_reducible exact ih0 _ _ _ _ _ _ _ _ _)
      | (with_reducible exact impl_Alu.mono _ _ _ _ _)
      | (with_reducible exact spec_Alu.mono _ _ _ _ _)
      | (with_reducible exact spec_DrawAlu.mono _ _)
      | (with_reducible exact LeO.refl _)
      | (with_reducible exact LeO.none _)
      | (with_reducible refine LeO.ite ?_ ?_)
      | (with_reducible refine LeO.bind ?_ (fun _ => ?_))
      | exact ih0 _ _ _ _ _ _ _ _ _
      | exact impl_Alu.mono _ _ _ _ _
      | exact spec_Alu.mono _ _ _ _ _
      | exact spec_DrawAlu.mono _ _
      | exact LeO.none _
      | refine LeO.ite ?_ ?_
      | refine LeO.bind ?_ (fun _ => ?_)
theorem laws_FnAdds.mono : ∀ a0 k, LeO (laws_FnAdds.f k a0) (laws_FnAdds.f (k + 1) a0) := by
  intro a0 k
  have ih0 := laws_FnAdds.mono_l k
  unfold laws_FnAdds.f
  repeat' first
      | (with_reducible exact ih0 _ _ _ _ _ _ _ _ _)
      | (with_reducible exact impl_Alu.mono _ _ _ _ _)
      | (with_reducible exact spec_Alu.mono _ _ _ _ _)
      | (with_reducible exact spec_DrawAlu.mono _ _)
      | (with_reducible exact LeO.refl _)
      | (with_reducible exact LeO.none _)
      | (with_reducible refine LeO.ite ?_ ?_)
      | (with_reducible refine LeO.bind ?_ (fun _ => ?_))
      | exact ih0 _ _ _ _ _ _ _ _ _
      | exact impl_Alu.mono _ _ _ _ _
      | exact spec_Alu.mono _ _ _ _ _
      | exact spec_DrawAlu.mono _ _
      | exact LeO.none _
      | refine LeO.ite ?_ ?_
      | refine LeO.bind ?_ (fun _ => ?_)
set_option maxHeartbeats 8000000 in
set_option maxRecDepth 100000 in
theorem laws_FnAdds.calls (k : Nat) (A0 : Option Addr) (c0 : Nat) (l0 : List Int) (r : Bool) (w : World) (hr0 : Kd.C (Kd.int .u8) w A0 l0.length l0) (hc0 : l0.length ≤ c0) (h : laws_FnAdds.f k l0 = some r) :
    Calls Try.prog 8 #[.slice A0 l0.length c0] w fun e w' => e = .returned (.bool r) ∧ Below w.heap.size w w' := by
  have HR0 := Aside0.mk hr0
  have HC0 := Aside0.mk hc0
  clear hr0 hc0
  have HB := Aside0.mk (Below.refl w.heap.size w)
  have H : ((laws_big.f l0).bind fun t190 => (if t190 = true then (some true) else ((spec_DrawAlu.f k l0).bind fun bt191 => ((impl_Alu.f k bt191.1 bt191.2.1 bt191.2.2.1 bt191.2.2.2).bind fun bt195 => ((spec_Alu.f k bt191.1 bt191.2.1 bt191.2.2.1 bt191.2.2.2).bind fun bt197 => (if bt195.1 = bt197.1 then (if bt195.2 = bt197.2 then (if bt191.1 > 1 then (laws_FnAdds.j0 k bt191.1 bt191.2.1 bt191.2.2.1 bt191.2.2.2 bt195.1 bt195.2 bt197.1 bt197.2 true) else (if bt191.1 < 0 then (laws_FnAdds.j0 k bt191.1 bt191.2.1 bt191.2.2.1 bt191.2.2.2 bt195.1 bt195.2 bt197.1 bt197.2 true) else (if bt191.2.1 < 0 then (laws_FnAdds.j0 k bt191.1 bt191.2.1 bt191.2.2.1 bt191.2.2.2 bt195.1 bt195.2 bt197.1 bt197.2 true) else (if bt191.2.1 > 255 then (laws_FnAdds.j0 k bt191.1 bt191.2.1 bt191.2.2.1 bt191.2.2.2 bt195.1 bt195.2 bt197.1 bt197.2 true) else (if bt191.2.2.1 < 0 then (laws_FnAdds.j0 k bt191.1 bt191.2.1 bt191.2.2.1 bt191.2.2.2 bt195.1 bt195.2 bt197.1 bt197.2 true) else (if bt191.2.2.1 > 255 then (laws_FnAdds.j0 k bt191.1 bt191.2.1 bt191.2.2.1 bt191.2.2.2 bt195.1 bt195.2 bt197.1 bt197.2 true) else (if bt191.2.2.2 < 0 then (laws_FnAdds.j0 k bt191.1 bt191.2.1 bt191.2.2.1 bt191.2.2.2 bt195.1 bt195.2 bt197.1 bt197.2 true) else (laws_FnAdds.j0 k bt191.1 bt191.2.1 bt191.2.2.1 bt191.2.2.2 bt195.1 bt195.2 bt197.1 bt197.2 (decide (bt191.2.2.2 > 255)))))))))) else (laws_FnAdds.j0 k bt191.1 bt191.2.1 bt191.2.2.1 bt191.2.2.2 bt195.1 bt195.2 bt197.1 bt197.2 true)) else (laws_FnAdds.j0 k bt191.1 bt191.2.1 bt191.2.2.1 bt191.2.2.2 bt195.1 bt195.2 bt197.1 bt197.2 true))))))) = some r := h
  clear h
  replace H := Option.bind_eq_some_iff.mp H
  obtain ⟨t190, A20, H⟩ := H
  replace H : (if t190 = true then (some true) else ((spec_DrawAlu.f k l0).bind fun bt191 => ((impl_Alu.f k bt191.1 bt191.2.1 bt191.2.2.1 bt191.2.2.2).bind fun bt195 => ((spec_Alu.f k bt191.1 bt191.2.1 bt191.2.2.1 bt191.2.2.2).bind fun bt197 => (if bt195.1 = bt197.1 then (if bt195.2 = bt197.2 then (if bt191.1 > 1 then (laws_FnAdds.j0 k bt191.1 bt191.2.1 bt191.2.2.1 bt191.2.2.2 bt195.1 bt195.2 bt197.1 bt197.2 true) else (if bt191.1 < 0 then (laws_FnAdds.j0 k bt191.1 bt191.2.1 bt191.2.2.1 bt191.2.2.2 bt195.1 bt195.2 bt197.1 bt197.2 true) else (if bt191.2.1 < 0 then (laws_FnAdds.j0 k bt191.1 bt191.2.1 bt191.2.2.1 bt191.2.2.2 bt195.1 bt195.2 bt197.1 bt197.2 true) else (if bt191.2.1 > 255 then (laws_FnAdds.j0 k bt191.1 bt191.2.1 bt191.2.2.1 bt191.2.2.2 bt195.1 bt195.2 bt197.1 bt197.2 true) else (if bt191.2.2.1 < 0 then (laws_FnAdds.j0 k bt191.1 bt191.2.1 bt191.2.2.1 bt191.2.2.2 bt195.1 bt195.2 bt197.1 bt197.2 true) else (if bt191.2.2.1 > 255 then (laws_FnAdds.j0 k bt191.1 bt191.2.1 bt191.2.2.1 bt191.2.2.2 bt195.1 bt195.2 bt197.1 bt197.2 true) else (if bt191.2.2.2 < 0 then (laws_FnAdds.j0 k bt191.1 bt191.2.1 bt191.2.2.1 bt191.2.2.2 bt195.1 bt195.2 bt197.1 bt197.2 true) else (laws_FnAdds.j0 k bt191.1 bt191.2.1 bt191.2.2.1 bt191.2.2.2 bt195.1 bt195.2 bt197.1 bt197.2 (decide (bt191.2.2.2 > 255)))))))))) else (laws_FnAdds.j0 k bt191.1 bt191.2.1 bt191.2.2.1 bt191.2.2.2 bt195.1 bt195.2 bt197.1 bt197.2 true)) else (laws_FnAdds.j0 k bt191.1 bt191.2.1 bt191.2.2.1 bt191.2.2.2 bt195.1 bt195.2 bt197.1 bt197.2 true)))))) = some r := H
  have A2 := Aside0.mk A20
  clear A20
  by_cases c3 : t190 = true
  · subst c3
    have H1 : (some true) = some r := by rw [if_pos rfl] at H; exact H
    clear H
    have H := H1
    clear H1
    obtain rfl := Option.some.inj H
    go_enter Try.func8, Try.ntmps8
    go_wp2_with (first | ((with_reducible refine gate_callee (f := 16) rfl ?_); refine goesL_ (some 15) rfl rfl Try.func16 (by kernel_rfl) rfl #[.slice A0 l0.length c0] rfl (by (try simp only [List.map_toArray, List.map_cons, List.map_nil]); first | done | rfl | (simp only [List.length_drop, List.length_take]; rfl)) ?_; (with_reducible refine (laws_big.calls _ _ l0 true _ ?side1 ?side2 A2.out).mono ?_); (case side1 => repeat (first | exact HR0.out | (with_reducible refine Kd.C_alloc ?_ _) | (with_reducible refine Kd.C_drewN ?_ _) | (with_reducible refine Kd.C_drew ?_))); (case side2 => exact HC0.out); rintro e w' ⟨rfl, ⟨nd, rfl⟩⟩; refine ⟨_, rfl, ?_⟩))
    go_ret
    exact ⟨by first | rfl | (simp [errW_none, errW_some] <;> rfl) | (simp [*, errW_none, errW_some] <;> rfl), by repeat (first | (with_reducible first | exact HB.out | apply below_alloc | apply pw_below_drewN | apply below_drew1) | exact HB.out)⟩
  · replace c3 := Bool.eq_false_iff.mpr c3
    subst c3
    have H1 : ((spec_DrawAlu.f k l0).bind fun bt191 => ((impl_Alu.f k bt191.1 bt191.2.1 bt191.2.2.1 bt191.2.2.2).bind fun bt195 => ((spec_Alu.f k bt191.1 bt191.2.1 bt191.2.2.1 bt191.2.2.2).bind fun bt197 => (if bt195.1 = bt197.1 then (if bt195.2 = bt197.2 then (if bt191.1 > 1 then (laws_FnAdds.j0 k bt191.1 bt191.2.1 bt191.2.2.1 bt191.2.2.2 bt195.1 bt195.2 bt197.1 bt197.2 true) else (if bt191.1 < 0 then (laws_FnAdds.j0 k bt191.1 bt191.2.1 bt191.2.2.1 bt191.2.2.2 bt195.1 bt195.2 bt197.1 bt197.2 true) else (if bt191.2.1 < 0 then (laws_FnAdds.j0 k bt191.1 bt191.2.1 bt191.2.2.1 bt191.2.2.2 bt195.1 bt195.2 bt197.1 bt197.2 true) else (if bt191.2.1 > 255 then (laws_FnAdds.j0 k bt191.1 bt191.2.1 bt191.2.2.1 bt191.2.2.2 bt195.1 bt195.2 bt197.1 bt197.2 true) else (if bt191.2.2.1 < 0 then (laws_FnAdds.j0 k bt191.1 bt191.2.1 bt191.2.2.1 bt191.2.2.2 bt195.1 bt195.2 bt197.1 bt197.2 true) else (if bt191.2.2.1 > 255 then (laws_FnAdds.j0 k bt191.1 bt191.2.1 bt191.2.2.1 bt191.2.2.2 bt195.1 bt195.2 bt197.1 bt197.2 true) else (if bt191.2.2.2 < 0 then (laws_FnAdds.j0 k bt191.1 bt191.2.1 bt191.2.2.1 bt191.2.2.2 bt195.1 bt195.2 bt197.1 bt197.2 true) else (laws_FnAdds.j0 k bt191.1 bt191.2.1 bt191.2.2.1 bt191.2.2.2 bt195.1 bt195.2 bt197.1 bt197.2 (decide (bt191.2.2.2 > 255)))))))))) else (laws_FnAdds.j0 k bt191.1 bt191.2.1 bt191.2.2.1 bt191.2.2.2 bt195.1 bt195.2 bt197.1 bt197.2 true)) else (laws_FnAdds.j0 k bt191.1 bt191.2.1 bt191.2.2.1 bt191.2.2.2 bt195.1 bt195.2 bt197.1 bt197.2 true))))) = some r := by rw [if_neg (show ¬ (false = true) by decide)] at H; exact H
    clear H
    have H := H1
    clear H1
    replace H := Option.bind_eq_some_iff.mp H
    obtain ⟨⟨t191, t192, t193, t194⟩, A40, H⟩ := H
    replace H : ((impl_Alu.f k t191 t192 t193 t194).bind fun bt195 => ((spec_Alu.f k t191 t192 t193 t194).bind fun bt197 => (if bt195.1 = bt197.1 then (if bt195.2 = bt197.2 then (if t191 > 1 then (laws_FnAdds.j0 k t191 t192 t193 t194 bt195.1 bt195.2 bt197.1 bt197.2 true) else (if t191 < 0 then (laws_FnAdds.j0 k t191 t192 t193 t194 bt195.1 bt195.2 bt197.1 bt197.2 true) else (if t192 < 0 then (laws_FnAdds.j0 k t191 t192 t193 t194 bt195.1 bt195.2 bt197.1 bt197.2 true) else (if t192 > 255 then (laws_FnAdds.j0 k t191 t192 t193 t194 bt195.1 bt195.2 bt197.1 bt197.2 true) else (if t193 < 0 then (laws_FnAdds.j0 k t191 t192 t193 t194 bt195.1 bt195.2 bt197.1 bt197.2 true) else (if t193 > 255 then (laws_FnAdds.j0 k t191 t192 t193 t194 bt195.1 bt195.2 bt197.1 bt197.2 true) else (if t194 < 0 then (laws_FnAdds.j0 k t191 t192 t193 t194 bt195.1 bt195.2 bt197.1 bt197.2 true) else (laws_FnAdds.j0 k t191 t192 t193 t194 bt195.1 bt195.2 bt197.1 bt197.2 (decide (t194 > 255)))))))))) else (laws_FnAdds.j0 k t191 t192 t193 t194 bt195.1 bt195.2 bt197.1 bt197.2 true)) else (laws_FnAdds.j0 k t191 t192 t193 t194 bt195.1 bt195.2 bt197.1 bt197.2 true)))) = some r := H
    have A4 := Aside0.mk A40
    clear A40
    replace H := Option.bind_eq_some_iff.mp H
    obtain ⟨⟨t195, t196⟩, A50, H⟩ := H
    replace H : ((spec_Alu.f k t191 t192 t193 t194).bind fun bt197 => (if t195 = bt197.1 then (if t196 = bt197.2 then (if t191 > 1 then (laws_FnAdds.j0 k t191 t192 t193 t194 t195 t196 bt197.1 bt197.2 true) else (if t191 < 0 then (laws_FnAdds.j0 k t191 t192 t193 t194 t195 t196 bt197.1 bt197.2 true) else (if t192 < 0 then (laws_FnAdds.j0 k t191 t192 t193 t194 t195 t196 bt197.1 bt197.2 true) else (if t192 > 255 then (laws_FnAdds.j0 k t191 t192 t193 t194 t195 t196 bt197.1 bt197.2 true) else (if t193 < 0 then (laws_FnAdds.j0 k t191 t192 t193 t194 t195 t196 bt197.1 bt197.2 true) else (if t193 > 255 then (laws_FnAdds.j0 k t191 t192 t193 t194 t195 t196 bt197.1 bt197.2 true) else (if t194 < 0 then (laws_FnAdds.j0 k t191 t192 t193 t194 t195 t196 bt197.1 bt197.2 true) else (laws_FnAdds.j0 k t191 t192 t193 t194 t195 t196 bt197.1 bt197.2 (decide (t194 > 255)))))))))) else (laws_FnAdds.j0 k t191 t192 t193 t194 t195 t196 bt197.1 bt197.2 true)) else (laws_FnAdds.j0 k t191 t192 t193 t194 t195 t196 bt197.1 bt197.2 true))) = some r := H
    have A5 := Aside0.mk A50
    clear A50
    replace H := Option.bind_eq_some_iff.mp H
    obtain ⟨⟨t197, t198⟩, A60, H⟩ := H
    replace H : (if t195 = t197 then (if t196 = t198 then (if t191 > 1 then (laws_FnAdds.j0 k t191 t192 t193 t194 t195 t196 t197 t198 true) else (if t191 < 0 then (laws_FnAdds.j0 k t191 t192 t193 t194 t195 t196 t197 t198 true) else (if t192 < 0 then (laws_FnAdds.j0 k t191 t192 t193 t194 t195 t196 t197 t198 true) else (if t192 > 255 then (laws_FnAdds.j0 k t191 t192 t193 t194 t195 t196 t197 t198 true) else (if t193 < 0 then (laws_FnAdds.j0 k t191 t192 t193 t194 t195 t196 t197 t198 true) else (if t193 > 255 then (laws_FnAdds.j0 k t191 t192 t193 t194 t195 t196 t197 t198 true) else (if t194 < 0 then (laws_FnAdds.j0 k t191 t192 t193 t194 t195 t196 t197 t198 true) else (laws_FnAdds.j0 k t191 t192 t193 t194 t195 t196 t197 t198 (decide (t194 > 255)))))))))) else (laws_FnAdds.j0 k t191 t192 t193 t194 t195 t196 t197 t198 true)) else (laws_FnAdds.j0 k t191 t192 t193 t194 t195 t196 t197 t198 true)) = some r := H
    have A6 := Aside0.mk A60
    clear A60
    have HC7 := Aside0.mk H
    clear H
    go_enter Try.func8, Try.ntmps8
    go_upto_region 6 with (first | ((with_reducible refine gate_callee (f := 16) rfl ?_); refine goesL_ (some 15) rfl rfl Try.func16 (by kernel_rfl) rfl #[.slice A0 l0.length c0] rfl (by (try simp only [List.map_toArray, List.map_cons, List.map_nil]); first | done | rfl | (simp only [List.length_drop, List.length_take]; rfl)) ?_; (with_reducible refine (laws_big.calls _ _ l0 false _ ?side1 ?side2 A2.out).mono ?_); (case side1 => repeat (first | exact HR0.out | (with_reducible refine Kd.C_alloc ?_ _) | (with_reducible refine Kd.C_drewN ?_ _) | (with_reducible refine Kd.C_drew ?_))); (case side2 => exact HC0.out); rintro e w' ⟨rfl, ⟨nd, rfl⟩⟩; refine ⟨_, rfl, ?_⟩) | ((with_reducible refine gate_callee (f := 23) rfl ?_); refine goesL_ (some 18) rfl rfl Try.func23 (by kernel_rfl) rfl #[.slice A0 l0.length c0] rfl (by (try simp only [List.map_toArray, List.map_cons, List.map_nil]); first | done | rfl | (simp only [List.length_drop, List.length_take]; rfl)) ?_; (with_reducible refine (spec_DrawAlu.calls k _ _ l0 t191 t192 t193 t194 _ ?side1 ?side2 A4.out).mono ?_); (case side1 => repeat (first | exact HR0.out | (with_reducible refine Kd.C_alloc ?_ _) | (with_reducible refine Kd.C_drewN ?_ _) | (with_reducible refine Kd.C_drew ?_))); (case side2 => exact HC0.out); rintro e w8 ⟨rfl, hb⟩; refine ⟨_, rfl, ?_⟩; have n0_ := Aside0.mk (below_step (by repeat (first | (with_reducible first | exact HB.out | apply below_alloc | apply pw_below_drewN | apply below_drew1) | exact HB.out)) hb); clear HB; have HB := n0_; clear n0_; (try clear hb); (try clear hb2); (try clear hk); (try clear hi)) | ((with_reducible refine gate_callee (f := 27) rfl ?_); refine goesL_ (some 28) rfl rfl Try.func27 (by kernel_rfl) rfl #[.int .i64 t191, .int .i64 t192, .int .i64 t193, .int .i64 t194] rfl (by (try simp only [List.map_toArray, List.map_cons, List.map_nil]); first | done | rfl | (simp only [List.length_drop, List.length_take]; rfl)) ?_; (with_reducible refine (impl_Alu.calls k t191 t192 t193 t194 t195 t196 _ A5.out).mono ?_); rintro e w' ⟨rfl, ⟨nd, rfl⟩⟩; refine ⟨_, rfl, ?_⟩) | ((with_reducible refine gate_callee (f := 37) rfl ?_); refine goesL_ (some 36) rfl rfl Try.func37 (by kernel_rfl) rfl #[.int .i64 t191, .int .i64 t192, .int .i64 t193, .int .i64 t194] rfl (by (try simp only [List.map_toArray, List.map_cons, List.map_nil]); first | done | rfl | (simp only [List.length_drop, List.length_take]; rfl)) ?_; (with_reducible refine (spec_Alu.calls k t191 t192 t193 t194 t197 t198 _ A6.out).mono ?_); rintro e w' ⟨rfl, ⟨nd, rfl⟩⟩; refine ⟨_, rfl, ?_⟩))
    (try simp only [Act.put, List.setIfInBounds_toArray, List.set_cons_zero, List.set_cons_succ])
    go_cut [78] (fun v78 wc => ∃ (kq : Nat) (x78_6 : Bool), v78 = .bool x78_6 ∧ Aside0 (laws_FnAdds.j0 kq t191 t192 t193 t194 t195 t196 t197 t198 x78_6 = some r) ∧ Aside0 (kq ≤ k) ∧ Aside0 (Below w.heap.size w wc))
    case first =>
      have H := HC7.out
      clear HC7
      by_cases c9 : t195 = t197
      · rw [if_pos c9] at H
        have c9b0 : (t195 == t197) = true := beq_iff_eq.mpr c9
        have c9b1 : (t195 != t197) = false := bne_eq_false_iff_eq.mpr c9
        clear c9
        (first | rw [c9b0] | (simp only [i64_w, i32_w]; rw [c9b0]) | skip)
        by_cases c10 : t196 = t198
        · rw [if_pos c10] at H
          have c10b0 : (t196 == t198) = true := beq_iff_eq.mpr c10
          have c10b1 : (t196 != t198) = false := bne_eq_false_iff_eq.mpr c10
          clear c10
          by_cases c11 : t191 > 1
          · rw [if_pos c11] at H
            have c11b0 : decide (1 < t191) = true := decide_eq_true c11
            clear c11
            have H' := Aside0.mk H
            clear H
            go_wp2
            go_meet
            case rel => exact ⟨_, (true), (by first | rfl | (simp; done) | (simp [*]; done) | (simp; rfl) | (simp [*]; rfl)), H', ⟨by first | omega | exact Nat.le_refl _⟩, ⟨by repeat (first | (with_reducible first | exact HB.out | apply below_alloc | apply pw_below_drewN | apply below_drew1) | exact HB.out)⟩⟩
          · rw [if_neg c11] at H
            have c11b0 : decide (1 < t191) = false := decide_eq_false c11
            clear c11
            by_cases c12 : t191 < 0
            · rw [if_pos c12] at H
              have c12b0 : decide (t191 < 0) = true := decide_eq_true c12
              clear c12
              have H' := Aside0.mk H
              clear H
              go_wp2
              go_meet
              case rel => exact ⟨_, (true), (by first | rfl | (simp; done) | (simp [*]; done) | (simp; rfl) | (simp [*]; rfl)), H', ⟨by first | omega | exact Nat.le_refl _⟩, ⟨by repeat (first | (with_reducible first | exact HB.out | apply below_alloc | apply pw_below_drewN | apply below_drew1) | exact HB.out)⟩⟩
            · rw [if_neg c12] at H
              have c12b0 : decide (t191 < 0) = false := decide_eq_false c12
              clear c12
              by_cases c13 : t192 < 0
              · rw [if_pos c13] at H
                have c13b0 : decide (t192 < 0) = true := decide_eq_true c13
                clear c13
                have H' := Aside0.mk H
                clear H
                go_wp2
                go_meet
                case rel => exact ⟨_, (true), (by first | rfl | (simp; done) | (simp [*]; done) | (simp; rfl) | (simp [*]; rfl)), H', ⟨by first | omega | exact Nat.le_refl _⟩, ⟨by repeat (first | (with_reducible first | exact HB.out | apply below_alloc | apply pw_below_drewN | apply below_drew1) | exact HB.out)⟩⟩
              · rw [if_neg c13] at H
                have c13b0 : decide (t192 < 0) = false := decide_eq_false c13
                clear c13
                by_cases c14 : t192 > 255
                · rw [if_pos c14] at H
                  have c14b0 : decide (255 < t192) = true := decide_eq_true c14
                  clear c14
                  have H' := Aside0.mk H
                  clear H
                  go_wp2
                  go_meet
                  case rel => exact ⟨_, (true), (by first | rfl | (simp; done) | (simp [*]; done) | (simp; rfl) | (simp [*]; rfl)), H', ⟨by first | omega | exact Nat.le_refl _⟩, ⟨by repeat (first | (with_reducible first | exact HB.out | apply below_alloc | apply pw_below_drewN | apply below_drew1) | exact HB.out)⟩⟩
                · rw [if_neg c14] at H
                  have c14b0 : decide (255 < t192) = false := decide_eq_false c14
                  clear c14
                  by_cases c15 : t193 < 0
                  · rw [if_pos c15] at H
                    have c15b0 : decide (t193 < 0) = true := decide_eq_true c15
                    clear c15
                    have H' := Aside0.mk H
                    clear H
                    go_wp2
                    go_meet
                    case rel => exact ⟨_, (true), (by first | rfl | (simp; done) | (simp [*]; done) | (simp; rfl) | (simp [*]; rfl)), H', ⟨by first | omega | exact Nat.le_refl _⟩, ⟨by repeat (first | (with_reducible first | exact HB.out | apply below_alloc | apply pw_below_drewN | apply below_drew1) | exact HB.out)⟩⟩
                  · rw [if_neg c15] at H
                    have c15b0 : decide (t193 < 0) = false := decide_eq_false c15
                    clear c15
                    by_cases c16 : t193 > 255
                    · rw [if_pos c16] at H
                      have c16b0 : decide (255 < t193) = true := decide_eq_true c16
                      clear c16
                      have H' := Aside0.mk H
                      clear H
                      go_wp2
                      go_meet
                      case rel => exact ⟨_, (true), (by first | rfl | (simp; done) | (simp [*]; done) | (simp; rfl) | (simp [*]; rfl)), H', ⟨by first | omega | exact Nat.le_refl _⟩, ⟨by repeat (first | (with_reducible first | exact HB.out | apply below_alloc | apply pw_below_drewN | apply below_drew1) | exact HB.out)⟩⟩
                    · rw [if_neg c16] at H
                      have c16b0 : decide (255 < t193) = false := decide_eq_false c16
                      clear c16
                      by_cases c17 : t194 < 0
                      · rw [if_pos c17] at H
                        have c17b0 : decide (t194 < 0) = true := decide_eq_true c17
                        clear c17
                        have H' := Aside0.mk H
                        clear H
                        go_wp2
                        go_meet
                        case rel => exact ⟨_, (true), (by first | rfl | (simp; done) | (simp [*]; done) | (simp; rfl) | (simp [*]; rfl)), H', ⟨by first | omega | exact Nat.le_refl _⟩, ⟨by repeat (first | (with_reducible first | exact HB.out | apply below_alloc | apply pw_below_drewN | apply below_drew1) | exact HB.out)⟩⟩
                      · rw [if_neg c17] at H
                        have c17b0 : decide (t194 < 0) = false := decide_eq_false c17
                        clear c17
                        have H' := Aside0.mk H
                        clear H
                        go_wp2
                        go_meet
                        case rel => exact ⟨_, (decide (t194 > 255)), (by first | rfl | (simp; done) | (simp [*]; done) | (simp; rfl) | (simp [*]; rfl)), H', ⟨by first | omega | exact Nat.le_refl _⟩, ⟨by repeat (first | (with_reducible first | exact HB.out | apply below_alloc | apply pw_below_drewN | apply below_drew1) | exact HB.out)⟩⟩
        · rw [if_neg c10] at H
          have c10b0 : (t196 == t198) = false := beq_eq_false_iff_ne.mpr c10
          have c10b1 : (t196 != t198) = true := bne_iff_ne.mpr c10
          have H' := Aside0.mk H
          clear H
          go_wp2
          go_meet
          case rel => exact ⟨_, (true), (by first | rfl | (simp; done) | (simp [*]; done) | (simp; rfl) | (simp [*]; rfl)), H', ⟨by first | omega | exact Nat.le_refl _⟩, ⟨by repeat (first | (with_reducible first | exact HB.out | apply below_alloc | apply pw_below_drewN | apply below_drew1) | exact HB.out)⟩⟩
      · rw [if_neg c9] at H
        have c9b0 : (t195 == t197) = false := beq_eq_false_iff_ne.mpr c9
        have c9b1 : (t195 != t197) = true := bne_iff_ne.mpr c9
        (first | rw [c9b0] | (simp only [i64_w, i32_w]; rw [c9b0]) | skip)
        have H' := Aside0.mk H
        clear H
        go_wp2
        go_meet
        case rel => exact ⟨_, (true), (by first | rfl | (simp; done) | (simp [*]; done) | (simp; rfl) | (simp [*]; rfl)), H', ⟨by first | omega | exact Nat.le_refl _⟩, ⟨by repeat (first | (with_reducible first | exact HB.out | apply below_alloc | apply pw_below_drewN | apply below_drew1) | exact HB.out)⟩⟩
    case rest =>
      clear HC7
      try clear c1
      try clear c2
      try clear p2
      try clear c3
      try clear c8
      try clear c9
      try clear c9b0
      try clear c9b1
      try clear c10
      try clear c10b0
      try clear c10b1
      try clear c11
      try clear c11b0
      try clear c12
      try clear c12b0
      try clear c13
      try clear c13b0
      try clear c14
      try clear c14b0
      try clear c15
      try clear c15b0
      try clear c16
      try clear c16b0
      try clear c17
      try clear c17b0
      obtain ⟨kq, x78_6, rfl, HA, HJ6, HB⟩ := hcut
      cases kq with
      | zero => exact absurd HA.out (by simp [laws_FnAdds.j0])
      | succ kj6 =>
        have H := HA.out
        clear HA
        simp only [laws_FnAdds.j0] at H
        by_cases c18 : x78_6 = true
        · subst c18
          have H1 : (if t195 = t197 then (some (t196 == t198)) else (some false)) = some r := by rw [if_pos rfl] at H; exact H
          clear H
          have H := H1
          clear H1
          by_cases c19 : t195 = t197
          · rw [if_pos c19] at H
            have c19b0 : (t195 == t197) = true := beq_iff_eq.mpr c19
            have c19b1 : (t195 != t197) = false := bne_eq_false_iff_eq.mpr c19
            clear c19
            obtain rfl := Option.some.inj H
            go_wp2
            go_ret
            exact ⟨by first | rfl | (simp [errW_none, errW_some] <;> rfl) | (simp [*, errW_none, errW_some] <;> rfl), by repeat (first | (with_reducible first | exact HB.out | apply below_alloc | apply pw_below_drewN | apply below_drew1) | exact HB.out)⟩
          · rw [if_neg c19] at H
            have c19b0 : (t195 == t197) = false := beq_eq_false_iff_ne.mpr c19
            have c19b1 : (t195 != t197) = true := bne_iff_ne.mpr c19
            obtain rfl := Option.some.inj H
            go_wp2
            go_ret
            exact ⟨by first | rfl | (simp [errW_none, errW_some] <;> rfl) | (simp [*, errW_none, errW_some] <;> rfl), by repeat (first | (with_reducible first | exact HB.out | apply below_alloc | apply pw_below_drewN | apply below_drew1) | exact HB.out)⟩
        · replace c18 := Bool.eq_false_iff.mpr c18
          subst c18
          have H1 : (if t191 = 1 then ((impl_Alu.f kj6 0 t192 0 t194).bind fun bt199 => (if (wrap64 (t195 + (wrap64 (256 * (Int.tmod (wrap64 (Int.tdiv t196 16)) 2))))) = (wrap64 ((wrap64 (t192 + t193)) + (Int.tmod (wrap64 (Int.tdiv t194 16)) 2))) then (if ((decide (t196 ≥ 128)) == (t195 == 0)) = true then (if (Int.tmod (wrap64 (Int.tdiv t196 64)) 2) = 0 then (some (bt199.1 == t192)) else (some false)) else (some false)) else (some false))) else ((impl_Alu.f kj6 0 t192 0 t194).bind fun bt201 => (if (wrap64 (t195 + (wrap64 (256 * (Int.tmod (wrap64 (Int.tdiv t196 16)) 2))))) = (wrap64 (wrap64 (t192 + t193))) then (if ((decide (t196 ≥ 128)) == (t195 == 0)) = true then (if (Int.tmod (wrap64 (Int.tdiv t196 64)) 2) = 0 then (some (bt201.1 == t192)) else (some false)) else (some false)) else (some false)))) = some r := by rw [if_neg (show ¬ (false = true) by decide)] at H; exact H
          clear H
          have H := H1
          clear H1
          by_cases c20 : t191 = 1
          · rw [if_pos c20] at H
            have c20b0 : (t191 == 1) = true := beq_iff_eq.mpr c20
            have c20b1 : (t191 != 1) = false := bne_eq_false_iff_eq.mpr c20
            clear c20
            replace H := Option.bind_eq_some_iff.mp H
            obtain ⟨⟨t199, t200⟩, A210, H⟩ := H
            replace H : (if (wrap64 (t195 + (wrap64 (256 * (Int.tmod (wrap64 (Int.tdiv t196 16)) 2))))) = (wrap64 ((wrap64 (t192 + t193)) + (Int.tmod (wrap64 (Int.tdiv t194 16)) 2))) then (if ((decide (t196 ≥ 128)) == (t195 == 0)) = true then (if (Int.tmod (wrap64 (Int.tdiv t196 64)) 2) = 0 then (some (t199 == t192)) else (some false)) else (some false)) else (some false)) = some r := H
            have A21 := Aside0.mk A210
            clear A210
            by_cases c22 : (wrap64 (t195 + (wrap64 (256 * (Int.tmod (wrap64 (Int.tdiv t196 16)) 2))))) = (wrap64 ((wrap64 (t192 + t193)) + (Int.tmod (wrap64 (Int.tdiv t194 16)) 2)))
            · rw [if_pos c22] at H
              have c22b0 : ((wrap64 (t195 + (wrap64 (256 * (Int.tmod (wrap64 (Int.tdiv t196 16)) 2))))) == (wrap64 ((wrap64 (t192 + t193)) + (Int.tmod (wrap64 (Int.tdiv t194 16)) 2)))) = true := beq_iff_eq.mpr c22
              have c22b1 : ((wrap64 (t195 + (wrap64 (256 * (Int.tmod (wrap64 (Int.tdiv t196 16)) 2))))) != (wrap64 ((wrap64 (t192 + t193)) + (Int.tmod (wrap64 (Int.tdiv t194 16)) 2)))) = false := bne_eq_false_iff_eq.mpr c22
              clear c22
              by_cases c23 : ((decide (t196 ≥ 128)) == (t195 == 0)) = true
              · rw [if_pos c23] at H
                have c23b0 : ((decide (t196 ≥ 128)) == (t195 == 0)) = true := c23
                (try (have c23b1 : decide ((decide (t196 ≥ 128)) = (t195 == 0)) = true := by simpa using c23))
                (try (have c23b2 : ((decide (t196 ≥ 128)) == (t195 == 0)) = true := by simpa using c23))
                clear c23
                by_cases c24 : (Int.tmod (wrap64 (Int.tdiv t196 64)) 2) = 0
                · rw [if_pos c24] at H
                  have c24b0 : ((Int.tmod (wrap64 (Int.tdiv t196 64)) 2) == 0) = true := beq_iff_eq.mpr c24
                  have c24b1 : ((Int.tmod (wrap64 (Int.tdiv t196 64)) 2) != 0) = false := bne_eq_false_iff_eq.mpr c24
                  clear c24
                  obtain rfl := Option.some.inj H
                  go_wp2_with (first | ((with_reducible refine gate_callee (f := 27) rfl ?_); refine goesL_ (some 95) rfl rfl Try.func27 (by kernel_rfl) rfl #[.int .i64 0, .int .i64 t192, .int .i64 0, .int .i64 t194] rfl (by (try simp only [List.map_toArray, List.map_cons, List.map_nil]); first | done | rfl | (simp only [List.length_drop, List.length_take]; rfl)) ?_; (with_reducible refine (impl_Alu.calls kj6 0 t192 0 t194 t199 t200 _ A21.out).mono ?_); rintro e w' ⟨rfl, ⟨nd, rfl⟩⟩; refine ⟨_, rfl, ?_⟩))
                  go_ret
                  exact ⟨by first | rfl | (simp [errW_none, errW_some] <;> rfl) | (simp [*, errW_none, errW_some] <;> rfl), by repeat (first | (with_reducible first | exact HB.out | apply below_alloc | apply pw_below_drewN | apply below_drew1) | exact HB.out)⟩
                · rw [if_neg c24] at H
                  have c24b0 : ((Int.tmod (wrap64 (Int.tdiv t196 64)) 2) == 0) = false := beq_eq_false_iff_ne.mpr c24
                  have c24b1 : ((Int.tmod (wrap64 (Int.tdiv t196 64)) 2) != 0) = true := bne_iff_ne.mpr c24
                  obtain rfl := Option.some.inj H
                  go_wp2_with (first | ((with_reducible refine gate_callee (f := 27) rfl ?_); refine goesL_ (some 95) rfl rfl Try.func27 (by kernel_rfl) rfl #[.int .i64 0, .int .i64 t192, .int .i64 0, .int .i64 t194] rfl (by (try simp only [List.map_toArray, List.map_cons, List.map_nil]); first | done | rfl | (simp only [List.length_drop, List.length_take]; rfl)) ?_; (with_reducible refine (impl_Alu.calls kj6 0 t192 0 t194 t199 t200 _ A21.out).mono ?_); rintro e w' ⟨rfl, ⟨nd, rfl⟩⟩; refine ⟨_, rfl, ?_⟩))
                  go_ret
                  exact ⟨by first | rfl | (simp [errW_none, errW_some] <;> rfl) | (simp [*, errW_none, errW_some] <;> rfl), by repeat (first | (with_reducible first | exact HB.out | apply below_alloc | apply pw_below_drewN | apply below_drew1) | exact HB.out)⟩
              · rw [if_neg c23] at H
                have c23b0 : ((decide (t196 ≥ 128)) == (t195 == 0)) = false := by simpa using c23
                (try (have c23b1 : decide ((decide (t196 ≥ 128)) = (t195 == 0)) = false := by simpa using c23))
                (try (have c23b2 : ((decide (t196 ≥ 128)) == (t195 == 0)) = false := by simpa using c23))
                (try (have c23b3 : ¬ ((decide (t196 ≥ 128)) = (t195 == 0)) := by simpa using c23))
                clear c23
                obtain rfl := Option.some.inj H
                go_wp2_with (first | ((with_reducible refine gate_callee (f := 27) rfl ?_); refine goesL_ (some 95) rfl rfl Try.func27 (by kernel_rfl) rfl #[.int .i64 0, .int .i64 t192, .int .i64 0, .int .i64 t194] rfl (by (try simp only [List.map_toArray, List.map_cons, List.map_nil]); first | done | rfl | (simp only [List.length_drop, List.length_take]; rfl)) ?_; (with_reducible refine (impl_Alu.calls kj6 0 t192 0 t194 t199 t200 _ A21.out).mono ?_); rintro e w' ⟨rfl, ⟨nd, rfl⟩⟩; refine ⟨_, rfl, ?_⟩))
                go_ret
                exact ⟨by first | rfl | (simp [errW_none, errW_some] <;> rfl) | (simp [*, errW_none, errW_some] <;> rfl), by repeat (first | (with_reducible first | exact HB.out | apply below_alloc | apply pw_below_drewN | apply below_drew1) | exact HB.out)⟩
            · rw [if_neg c22] at H
              have c22b0 : ((wrap64 (t195 + (wrap64 (256 * (Int.tmod (wrap64 (Int.tdiv t196 16)) 2))))) == (wrap64 ((wrap64 (t192 + t193)) + (Int.tmod (wrap64 (Int.tdiv t194 16)) 2)))) = false := beq_eq_false_iff_ne.mpr c22
              have c22b1 : ((wrap64 (t195 + (wrap64 (256 * (Int.tmod (wrap64 (Int.tdiv t196 16)) 2))))) != (wrap64 ((wrap64 (t192 + t193)) + (Int.tmod (wrap64 (Int.tdiv t194 16)) 2)))) = true := bne_iff_ne.mpr c22
              obtain rfl := Option.some.inj H
              go_wp2_with (first | ((with_reducible refine gate_callee (f := 27) rfl ?_); refine goesL_ (some 95) rfl rfl Try.func27 (by kernel_rfl) rfl #[.int .i64 0, .int .i64 t192, .int .i64 0, .int .i64 t194] rfl (by (try simp only [List.map_toArray, List.map_cons, List.map_nil]); first | done | rfl | (simp only [List.length_drop, List.length_take]; rfl)) ?_; (with_reducible refine (impl_Alu.calls kj6 0 t192 0 t194 t199 t200 _ A21.out).mono ?_); rintro e w' ⟨rfl, ⟨nd, rfl⟩⟩; refine ⟨_, rfl, ?_⟩))
              go_ret
              exact ⟨by first | rfl | (simp [errW_none, errW_some] <;> rfl) | (simp [*, errW_none, errW_some] <;> rfl), by repeat (first | (with_reducible first | exact HB.out | apply below_alloc | apply pw_below_drewN | apply below_drew1) | exact HB.out)⟩
          · rw [if_neg c20] at H
            have c20b0 : (t191 == 1) = false := beq_eq_false_iff_ne.mpr c20
            have c20b1 : (t191 != 1) = true := bne_iff_ne.mpr c20
            replace H := Option.bind_eq_some_iff.mp H
            obtain ⟨⟨t201, t202⟩, A250, H⟩ := H
            replace H : (if (wrap64 (t195 + (wrap64 (256 * (Int.tmod (wrap64 (Int.tdiv t196 16)) 2))))) = (wrap64 (wrap64 (t192 + t193))) then (if ((decide (t196 ≥ 128)) == (t195 == 0)) = true then (if (Int.tmod (wrap64 (Int.tdiv t196 64)) 2) = 0 then (some (t201 == t192)) else (some false)) else (some false)) else (some false)) = some r := H
            have A25 := Aside0.mk A250
            clear A250
            by_cases c26 : (wrap64 (t195 + (wrap64 (256 * (Int.tmod (wrap64 (Int.tdiv t196 16)) 2))))) = (wrap64 (wrap64 (t192 + t193)))
            · rw [if_pos c26] at H
              have c26b0 : ((wrap64 (t195 + (wrap64 (256 * (Int.tmod (wrap64 (Int.tdiv t196 16)) 2))))) == (wrap64 (wrap64 (t192 + t193)))) = true := beq_iff_eq.mpr c26
              have c26b1 : ((wrap64 (t195 + (wrap64 (256 * (Int.tmod (wrap64 (Int.tdiv t196 16)) 2))))) != (wrap64 (wrap64 (t192 + t193)))) = false := bne_eq_false_iff_eq.mpr c26
              clear c26
              by_cases c27 : ((decide (t196 ≥ 128)) == (t195 == 0)) = true
              · rw [if_pos c27] at H
                have c27b0 : ((decide (t196 ≥ 128)) == (t195 == 0)) = true := c27
                (try (have c27b1 : decide ((decide (t196 ≥ 128)) = (t195 == 0)) = true := by simpa using c27))
                (try (have c27b2 : ((decide (t196 ≥ 128)) == (t195 == 0)) = true := by simpa using c27))
                clear c27
                by_cases c28 : (Int.tmod (wrap64 (Int.tdiv t196 64)) 2) = 0
                · rw [if_pos c28] at H
                  have c28b0 : ((Int.tmod (wrap64 (Int.tdiv t196 64)) 2) == 0) = true := beq_iff_eq.mpr c28
                  have c28b1 : ((Int.tmod (wrap64 (Int.tdiv t196 64)) 2) != 0) = false := bne_eq_false_iff_eq.mpr c28
                  clear c28
                  obtain rfl := Option.some.inj H
                  go_wp2_with (first | ((with_reducible refine gate_callee (f := 27) rfl ?_); refine goesL_ (some 95) rfl rfl Try.func27 (by kernel_rfl) rfl #[.int .i64 0, .int .i64 t192, .int .i64 0, .int .i64 t194] rfl (by (try simp only [List.map_toArray, List.map_cons, List.map_nil]); first | done | rfl | (simp only [List.length_drop, List.length_take]; rfl)) ?_; (with_reducible refine (impl_Alu.calls kj6 0 t192 0 t194 t201 t202 _ A25.out).mono ?_); rintro e w' ⟨rfl, ⟨nd, rfl⟩⟩; refine ⟨_, rfl, ?_⟩))
                  go_ret
                  exact ⟨by first | rfl | (simp [errW_none, errW_some] <;> rfl) | (simp [*, errW_none, errW_some] <;> rfl), by repeat (first | (with_reducible first | exact HB.out | apply below_alloc | apply pw_below_drewN | apply below_drew1) | exact HB.out)⟩
                · rw [if_neg c28] at H
                  have c28b0 : ((Int.tmod (wrap64 (Int.tdiv t196 64)) 2) == 0) = false := beq_eq_false_iff_ne.mpr c28
                  have c28b1 : ((Int.tmod (wrap64 (Int.tdiv t196 64)) 2) != 0) = true := bne_iff_ne.mpr c28
                  obtain rfl := Option.some.inj H
                  go_wp2_with (first | ((with_reducible refine gate_callee (f := 27) rfl ?_); refine goesL_ (some 95) rfl rfl Try.func27 (by kernel_rfl) rfl #[.int .i64 0, .int .i64 t192, .int .i64 0, .int .i64 t194] rfl (by (try simp only [List.map_toArray, List.map_cons, List.map_nil]); first | done | rfl | (simp only [List.length_drop, List.length_take]; rfl)) ?_; (with_reducible refine (impl_Alu.calls kj6 0 t192 0 t194 t201 t202 _ A25.out).mono ?_); rintro e w' ⟨rfl, ⟨nd, rfl⟩⟩; refine ⟨_, rfl, ?_⟩))
                  go_ret
                  exact ⟨by first | rfl | (simp [errW_none, errW_some] <;> rfl) | (simp [*, errW_none, errW_some] <;> rfl), by repeat (first | (with_reducible first | exact HB.out | apply below_alloc | apply pw_below_drewN | apply below_drew1) | exact HB.out)⟩
              · rw [if_neg c27] at H
                have c27b0 : ((decide (t196 ≥ 128)) == (t195 == 0)) = false := by simpa using c27
                (try (have c27b1 : decide ((decide (t196 ≥ 128)) = (t195 == 0)) = false := by simpa using c27))
                (try (have c27b2 : ((decide (t196 ≥ 128)) == (t195 == 0)) = false := by simpa using c27))
                (try (have c27b3 : ¬ ((decide (t196 ≥ 128)) = (t195 == 0)) := by simpa using c27))
                clear c27
                obtain rfl := Option.some.inj H
                go_wp2_with (first | ((with_reducible refine gate_callee (f := 27) rfl ?_); refine goesL_ (some 95) rfl rfl Try.func27 (by kernel_rfl) rfl #[.int .i64 0, .int .i64 t192, .int .i64 0, .int .i64 t194] rfl (by (try simp only [List.map_toArray, List.map_cons, List.map_nil]); first | done | rfl | (simp only [List.length_drop, List.length_take]; rfl)) ?_; (with_reducible refine (impl_Alu.calls kj6 0 t192 0 t194 t201 t202 _ A25.out).mono ?_); rintro e w' ⟨rfl, ⟨nd, rfl⟩⟩; refine ⟨_, rfl, ?_⟩))
                go_ret
                exact ⟨by first | rfl | (simp [errW_none, errW_some] <;> rfl) | (simp [*, errW_none, errW_some] <;> rfl), by repeat (first | (with_reducible first | exact HB.out | apply below_alloc | apply pw_below_drewN | apply below_drew1) | exact HB.out)⟩
            · rw [if_neg c26] at H
              have c26b0 : ((wrap64 (t195 + (wrap64 (256 * (Int.tmod (wrap64 (Int.tdiv t196 16)) 2))))) == (wrap64 (wrap64 (t192 + t193)))) = false := beq_eq_false_iff_ne.mpr c26
              have c26b1 : ((wrap64 (t195 + (wrap64 (256 * (Int.tmod (wrap64 (Int.tdiv t196 16)) 2))))) != (wrap64 (wrap64 (t192 + t193)))) = true := bne_iff_ne.mpr c26
              obtain rfl := Option.some.inj H
              go_wp2_with (first | ((with_reducible refine gate_callee (f := 27) rfl ?_); refine goesL_ (some 95) rfl rfl Try.func27 (by kernel_rfl) rfl #[.int .i64 0, .int .i64 t192, .int .i64 0, .int .i64 t194] rfl (by (try simp only [List.map_toArray, List.map_cons, List.map_nil]); first | done | rfl | (simp only [List.length_drop, List.length_take]; rfl)) ?_; (with_reducible refine (impl_Alu.calls kj6 0 t192 0 t194 t201 t202 _ A25.out).mono ?_); rintro e w' ⟨rfl, ⟨nd, rfl⟩⟩; refine ⟨_, rfl, ?_⟩))
              go_ret
              exact ⟨by first | rfl | (simp [errW_none, errW_some] <;> rfl) | (simp [*, errW_none, errW_some] <;> rfl), by repeat (first | (with_reducible first | exact HB.out | apply below_alloc | apply pw_below_drewN | apply below_drew1) | exact HB.out)⟩

/-- THE ONE PURE STATEMENT of laws_FnAdds: yours. -/
def laws_FnAdds.Pure : Prop := ∀ (l0 : List Int), l0.length ≤ maxLen → l0.length * 1 ≤ 140737488351232 → (∀ x ∈ l0, (Lit.int .u8 x).wf = true) → ∃ k, laws_FnAdds.f k l0 = some true
theorem laws_FnAdds.walk (P : laws_FnAdds.Pure) (a0 : Option Addr) (len0 cap0 : Nat) (z0 : List Int) (w : World) (w0 : (a0 = none ∧ len0 = 0 ∧ cap0 = 0 ∧ z0 = []) ∨ ∃ x, a0 = some x ∧ len0 ≤ cap0 ∧ cap0 ≤ maxLen ∧ z0.length = cap0 ∧ (∀ i, i < z0.length → w.cell? (x.add i) = some (.int .u8 (z0.getD i 0))) ∧ ∀ n ∈ z0, (Lit.int .u8 n).wf = true) (y0 : len0 * 1 ≤ 140737488351232) :
    Calls Try.prog 8 #[.slice a0 len0 cap0] w fun e w' => e = .returned (.bool true) ∧ Below w.heap.size w w' := by
  obtain ⟨l0, rfl, hr0, hm0, hw0, hc0⟩ := ReadsInt.ofRowC w0
  obtain ⟨k, h⟩ := P l0 hm0 y0 hw0
  refine (laws_FnAdds.calls k _ _ l0 true w (Kd.C_of_reads (d := (0 : Int)) (h1 := fun _ => rfl) hr0) hc0 h).mono ?_
  rintro e w' ⟨rfl, hd⟩
  exact ⟨rfl, hd⟩

end Go.Proofs.Ytahibkfcohajcaa.QFnAdds
