/- The machine's side of a law, written by a program of this session for this claim. -/
import Derived.Test.YtcohcndliaaacaaQFnDiffsx0
import Derived.Test.YtcohcndliaaacaaQFnDiffsx3
namespace Go.Proofs.Ytcohcndliaaacaa.QFnDiffs
open Go.RowKit Go.Proofs.Ytcohcndliaaacaa.LibX Go.Proofs.Ytcohcndliaaacaa.LibE Go.Proofs.Ytcohcndliaaacaa.LibG Go.Proofs.Ytcohcndliaaacaa.LibHD Go.Proofs.YtcohcndliaaacaaW.PrintWords Go.Proofs.YtcohcndliaaacaaW.PrintLast Go.Proofs.YtcohcndliaaacaaW.PrintMore
attribute [local go_sem] max2_int min2_int max_two min_two max_three min_three max_four min_four   -- for this text's walks alone
set_option linter.unusedVariables false
set_option linter.unusedSimpArgs false

/-! ### impl_Applied: function 14 -/
mutual
def impl_Applied.j0 : Nat → ByteArray → ByteArray → Bool → Option (ByteArray × Bool)
  | 0, _, _, _ => none
  | k + 1, x0, x1, x35 => if x35 = true then (some ((⟨#[]⟩ : ByteArray), false)) else (if 0 ≤ (wrap64 ((x1.size : Int) - 3)) then (if (wrap64 ((x1.size : Int) - 3)) ≤ (x1.size : Int) then ((impl_bigOf.f k (x1.extract ((wrap64 ((x1.size : Int) - 3)) : Int).toNat x1.size)).bind fun t159 => (if t159 > 20000 then (some ((⟨#[]⟩ : ByteArray), false)) else (if 0 ≤ t159 then (if (t159 : Int).toNat ≤ 281474976710656 then ((some (List.replicate (t159 : Int).toNat 0 : List Int)).bind fun y160 => (if 4 ≤ (wrap64 ((x1.size : Int) - 6)) then (if (wrap64 ((x1.size : Int) - 6)) ≤ (x1.size : Int) then (impl_Applied.l0 k (x1.extract 4 ((wrap64 ((x1.size : Int) - 6)) : Int).toNat) t159 (cpy y160 0 (y160.length) (bytesOf x0)) 0) else (none)) else (none))) else (none)) else (none)))) else (none)) else (none))
def impl_Applied.l0 : Nat → ByteArray → Int → List Int → Int → Option (ByteArray × Bool)
  | 0, _, _, _, _ => none
  | k + 1, x1, x6, x7, x8 => if x1.toList = ([] : List UInt8) then (some (strOfNums x7, true)) else (if (x1.size : Int) < 5 then (some ((⟨#[]⟩ : ByteArray), false)) else (if 0 ≤ 3 then (if 3 ≤ (x1.size : Int) then ((impl_bigOf.f k (x1.extract 0 3)).bind fun t164 => (if 3 ≤ 5 then (if 5 ≤ (x1.size : Int) then ((impl_bigOf.f k (x1.extract 3 5)).bind fun t165 => (if t165 = 0 then (some ((⟨#[]⟩ : ByteArray), false)) else (if t165 > ((x1.extract 5 x1.size).size : Int) then (some ((⟨#[]⟩ : ByteArray), false)) else (if t164 < x8 then (some ((⟨#[]⟩ : ByteArray), false)) else (if (wrap64 (t164 + t165)) > x6 then (some ((⟨#[]⟩ : ByteArray), false)) else (if 0 ≤ t164 then (if t164 ≤ (x7.length : Int) then (if 0 ≤ t165 then (if t165 ≤ ((x1.extract 5 x1.size).size : Int) then (impl_Applied.l0 k ((x1.extract 5 x1.size).extract (t165 : Int).toNat (x1.extract 5 x1.size).size) x6 (cpy x7 (t164 : Int).toNat (x7.length - (t164 : Int).toNat) (bytesOf ((x1.extract 5 x1.size).extract 0 (t165 : Int).toNat))) (wrap64 (t164 + t165))) else (none)) else (none)) else (none)) else (none))))))) else (none)) else (none))) else (none)) else (none)))
end
def impl_Applied.f (k : Nat) (a0 : ByteArray) (a1 : ByteArray) : Option (ByteArray × Bool) := if (a0.size : Int) > 20000 then (impl_Applied.j0 k a0 a1 true) else ((impl_within.f (a1.size : Int) 10 80000).bind fun t157 => (if t157 = true then ((strings_HasPrefix.f a1 (⟨#[68, 73, 70, 70]⟩ : ByteArray)).bind fun t158 => (if t158 = true then (if 0 ≤ (wrap64 ((a1.size : Int) - 6)) then (if (wrap64 ((a1.size : Int) - 6)) ≤ (wrap64 ((a1.size : Int) - 3)) then (if (wrap64 ((a1.size : Int) - 3)) ≤ (a1.size : Int) then (impl_Applied.j0 k a0 a1 ((a1.extract ((wrap64 ((a1.size : Int) - 6)) : Int).toNat ((wrap64 ((a1.size : Int) - 3)) : Int).toNat).toList != ([69, 78, 68] : List UInt8))) else (none)) else (none)) else (none)) else (impl_Applied.j0 k a0 a1 true))) else (impl_Applied.j0 k a0 a1 true)))
theorem impl_Applied.mono_l : ∀ k, (∀ y0 y1 y2, LeO (impl_Applied.j0 k y0 y1 y2) (impl_Applied.j0 (k + 1) y0 y1 y2)) ∧ (∀ y0 y1 y2 y3, LeO (impl_Applied.l0 k y0 y1 y2 y3) (impl_Applied.l0 (k + 1) y0 y1 y2 y3))
  | 0 => ⟨fun _ _ _ r h => by simp [impl_Applied.j0] at h, fun _ _ _ _ r h => by simp [impl_Applied.l0] at h⟩
  | k + 1 => by
    obtain ⟨ih0, ih1⟩ := impl_Applied.mono_l k
    refine ⟨?_, ?_⟩
    · intro y0 y1 y2
      unfold impl_Applied.j0
      repeat' first
      | (with_reducible exact ih0 _ _ _)
      | (with_reducible exact ih1 _ _ _ _)
      | (with_reducible exact impl_bigOf.mono _ _)
      | (with_reducible exact LeO.refl _)
      | (with_reducible exact LeO.none _)
      | (with_reducible refine LeO.ite ?_ ?_)
      | (with_reducible refine LeO.bind ?_ (fun _ => ?_))
      | exact ih0 _ _ _
      | exact ih1 _ _ _ _
      | exact impl_bigOf.mono _ _
      | exact LeO.none _
      | refine LeO.ite ?_ ?_
      | refine LeO.bind ?_ (fun _ => ?_)
    · intro y0 y1 y2 y3
      unfold impl_Applied.l0
      repeat' first
      | (with_reducible exact ih0 _ _ _)
      | (with_reducible exact ih1 _ _ _ _)
      | (with_reducible exact impl_bigOf.mono _ _)
      | (with_reducible exact LeO.refl _)
      | (with_reducible exact LeO.none _)
      | (with_reducible refine LeO.ite ?_ ?_)
      | (with_reducible refine LeO.bind ?_ (fun _ => ?_))
      | exact ih0 _ _ _
      | exact ih1 _ _ _ _
      | exact impl_bigOf.mono _ _
      | exact LeO.none _
      | refine LeO.ite ?_ ?_
      | refine LeO.bind ?_ (fun _ => ?_)
theorem impl_Applied.mono : ∀ a0 a1 k, LeO (impl_Applied.f k a0 a1) (impl_Applied.f (k + 1) a0 a1) := by
  intro a0 a1 k
  obtain ⟨ih0, ih1⟩ := impl_Applied.mono_l k
  unfold impl_Applied.f
  repeat' first
      | (with_reducible exact ih0 _ _ _)
      | (with_reducible exact ih1 _ _ _ _)
      | (with_reducible exact impl_bigOf.mono _ _)
      | (with_reducible exact LeO.refl _)
      | (with_reducible exact LeO.none _)
      | (with_reducible refine LeO.ite ?_ ?_)
      | (with_reducible refine LeO.bind ?_ (fun _ => ?_))
      | exact ih0 _ _ _
      | exact ih1 _ _ _ _
      | exact impl_bigOf.mono _ _
      | exact LeO.none _
      | refine LeO.ite ?_ ?_
      | refine LeO.bind ?_ (fun _ => ?_)
def impl_Applied.T13 : Bool × List (List Nat × List Nat) := (true, [([], []), ([0], [0]), ([1], [1]), ([], []), ([3], [3]), ([4, 2], [4]), ([2, 5, 0, 1, 2], [2]), ([5, 6, 0, 1, 2, 3, 4, 5, 6], [5])])
def impl_Applied.B13 : List Nat := [0, 1, 3, 0, 8, 31, 63, 127]
theorem impl_Applied.tab13 : rtab .any (opsOf Try.f14 13) = impl_Applied.T13 := by kernel_rfl
theorem impl_Applied.bits13 : waitsOk impl_Applied.T13.2 impl_Applied.B13 = true := by kernel_rfl
set_option maxHeartbeats 8000000 in
set_option maxRecDepth 100000 in
theorem impl_Applied.calls (k : Nat) (a0 : ByteArray) (a1 : ByteArray) (r1 : ByteArray) (r2 : Bool) (w : World) (h : impl_Applied.f k a0 a1 = some (r1, r2)) :
    Calls Try.prog 14 #[.string a0, .string a1] w fun e w' => e = .returned (.tuple #[.string r1, .bool r2]) ∧ Below w.heap.size w w' := by
  have HB := Aside0.mk (Below.refl w.heap.size w)
  have H : (if (a0.size : Int) > 20000 then (impl_Applied.j0 k a0 a1 true) else ((impl_within.f (a1.size : Int) 10 80000).bind fun t157 => (if t157 = true then ((strings_HasPrefix.f a1 (⟨#[68, 73, 70, 70]⟩ : ByteArray)).bind fun t158 => (if t158 = true then (if 0 ≤ (wrap64 ((a1.size : Int) - 6)) then (if (wrap64 ((a1.size : Int) - 6)) ≤ (wrap64 ((a1.size : Int) - 3)) then (if (wrap64 ((a1.size : Int) - 3)) ≤ (a1.size : Int) then (impl_Applied.j0 k a0 a1 ((a1.extract ((wrap64 ((a1.size : Int) - 6)) : Int).toNat ((wrap64 ((a1.size : Int) - 3)) : Int).toNat).toList != ([69, 78, 68] : List UInt8))) else (none)) else (none)) else (none)) else (impl_Applied.j0 k a0 a1 true))) else (impl_Applied.j0 k a0 a1 true)))) = some (r1, r2) := h
  clear h
  have HC3 := Aside0.mk H
  clear H
  go_enter Try.func14, Try.ntmps14
  go_upto_region 1 with (fail)
  go_cut [35] (fun v35 wc => ∃ (kq : Nat) (x35_2 : Bool), v35 = .bool x35_2 ∧ Aside0 (impl_Applied.j0 kq a0 a1 x35_2 = some (r1, r2)) ∧ Aside0 (kq ≤ k) ∧ Aside0 (Below w.heap.size w wc))
  case first =>
    have H := HC3.out
    clear HC3
    by_cases c4 : (a0.size : Int) > 20000
    · rw [if_pos c4] at H
      have c4b0 : decide (20000 < (a0.size : Int)) = true := decide_eq_true c4
      have c4b1 : decide (20000 < a0.size) = true := decide_eq_true (by omega)
      clear c4
      (first | rw [c4b0] | (simp only [i64_w, i32_w]; rw [c4b0]) | skip)
      have H' := Aside0.mk H
      clear H
      go_wp2
      go_meet
      case rel => exact ⟨_, (true), (by first | rfl | (simp; done) | (simp [*]; done) | (simp; decide +kernel) | (simp [wrap64]; done) | (simp [bne]; done)), H', ⟨by first | omega | exact Nat.le_refl _⟩, ⟨by repeat (first | (with_reducible first | exact HB.out | apply below_alloc | apply pw_below_drewN | apply below_drew1) | exact HB.out)⟩⟩
    · rw [if_neg c4] at H
      have c4b0 : decide (20000 < (a0.size : Int)) = false := decide_eq_false c4
      have c4b1 : decide (20000 < a0.size) = false := decide_eq_false (by omega)
      clear c4
      (first | rw [c4b0] | (simp only [i64_w, i32_w]; rw [c4b0]) | skip)
      replace H := Option.bind_eq_some_iff.mp H
      obtain ⟨t157, A50, H⟩ := H
      replace H : (if t157 = true then ((strings_HasPrefix.f a1 (⟨#[68, 73, 70, 70]⟩ : ByteArray)).bind fun t158 => (if t158 = true then (if 0 ≤ (wrap64 ((a1.size : Int) - 6)) then (if (wrap64 ((a1.size : Int) - 6)) ≤ (wrap64 ((a1.size : Int) - 3)) then (if (wrap64 ((a1.size : Int) - 3)) ≤ (a1.size : Int) then (impl_Applied.j0 k a0 a1 ((a1.extract ((wrap64 ((a1.size : Int) - 6)) : Int).toNat ((wrap64 ((a1.size : Int) - 3)) : Int).toNat).toList != ([69, 78, 68] : List UInt8))) else (none)) else (none)) else (none)) else (impl_Applied.j0 k a0 a1 true))) else (impl_Applied.j0 k a0 a1 true)) = some (r1, r2) := H
      have A5 := Aside0.mk A50
      clear A50
      by_cases c6 : t157 = true
      · subst c6
        have H1 : ((strings_HasPrefix.f a1 (⟨#[68, 73, 70, 70]⟩ : ByteArray)).bind fun t158 => (if t158 = true then (if 0 ≤ (wrap64 ((a1.size : Int) - 6)) then (if (wrap64 ((a1.size : Int) - 6)) ≤ (wrap64 ((a1.size : Int) - 3)) then (if (wrap64 ((a1.size : Int) - 3)) ≤ (a1.size : Int) then (impl_Applied.j0 k a0 a1 ((a1.extract ((wrap64 ((a1.size : Int) - 6)) : Int).toNat ((wrap64 ((a1.size : Int) - 3)) : Int).toNat).toList != ([69, 78, 68] : List UInt8))) else (none)) else (none)) else (none)) else (impl_Applied.j0 k a0 a1 true))) = some (r1, r2) := by rw [if_pos rfl] at H; exact H
        clear H
        have H := H1
        clear H1
        replace H := Option.bind_eq_some_iff.mp H
        obtain ⟨t158, A70, H⟩ := H
        replace H : (if t158 = true then (if 0 ≤ (wrap64 ((a1.size : Int) - 6)) then (if (wrap64 ((a1.size : Int) - 6)) ≤ (wrap64 ((a1.size : Int) - 3)) then (if (wrap64 ((a1.size : Int) - 3)) ≤ (a1.size : Int) then (impl_Applied.j0 k a0 a1 ((a1.extract ((wrap64 ((a1.size : Int) - 6)) : Int).toNat ((wrap64 ((a1.size : Int) - 3)) : Int).toNat).toList != ([69, 78, 68] : List UInt8))) else (none)) else (none)) else (none)) else (impl_Applied.j0 k a0 a1 true)) = some (r1, r2) := H
        have A7 := Aside0.mk A70
        clear A70
        by_cases c8 : t158 = true
        · subst c8
          have H1 : (if 0 ≤ (wrap64 ((a1.size : Int) - 6)) then (if (wrap64 ((a1.size : Int) - 6)) ≤ (wrap64 ((a1.size : Int) - 3)) then (if (wrap64 ((a1.size : Int) - 3)) ≤ (a1.size : Int) then (impl_Applied.j0 k a0 a1 ((a1.extract ((wrap64 ((a1.size : Int) - 6)) : Int).toNat ((wrap64 ((a1.size : Int) - 3)) : Int).toNat).toList != ([69, 78, 68] : List UInt8))) else (none)) else (none)) else (none)) = some (r1, r2) := by rw [if_pos rfl] at H; exact H
          clear H
          have H := H1
          clear H1
          obtain ⟨ji9, hji9⟩ : ∃ j_ : Int, (wrap64 ((a1.size : Int) - 6)) = j_ := ⟨_, rfl⟩
          replace H : (if 0 ≤ (ji9) then (if (ji9) ≤ (wrap64 ((a1.size : Int) - 3)) then (if (wrap64 ((a1.size : Int) - 3)) ≤ (a1.size : Int) then (impl_Applied.j0 k a0 a1 ((a1.extract ((ji9) : Int).toNat ((wrap64 ((a1.size : Int) - 3)) : Int).toNat).toList != ([69, 78, 68] : List UInt8))) else (none)) else (none)) else (none)) = some (r1, r2) := by first | (rw [hji9] at H; exact H) | (simp only [hji9] at H ⊢; exact H)
          (try rw [hji9] at A5)
          (try rw [hji9] at A7)
          have hji9w : (IntKind.i64.wrap ((a1.size : Int) - 6)) = ji9 := (i64_w _).trans hji9
          by_cases c10 : 0 ≤ (ji9)
          · rw [if_pos c10] at H
            have c10b0 := eq_true c10
            have c10b1 : decide (0 ≤ (ji9)) = true := decide_eq_true c10
            clear c10
            by_cases c11 : (ji9) ≤ (wrap64 ((a1.size : Int) - 3))
            · rw [if_pos c11] at H
              have c11b0 := eq_true c11
              have c11b1 : decide ((ji9) ≤ (wrap64 ((a1.size : Int) - 3))) = true := decide_eq_true c11
              clear c11
              by_cases c12 : (wrap64 ((a1.size : Int) - 3)) ≤ (a1.size : Int)
              · rw [if_pos c12] at H
                have c12b0 := eq_true c12
                have c12b1 : decide ((wrap64 ((a1.size : Int) - 3)) ≤ (a1.size : Int)) = true := decide_eq_true c12
                clear c12
                have H' := Aside0.mk H
                clear H
                go_wp2_with (first | (go_at_call 38; (with_reducible refine (impl_within.calls (a1.size : Int) 10 80000 true _ A5.out).mono ?_); rintro e w' ⟨rfl, ⟨nd, rfl⟩⟩) | (go_at_call 39; (with_reducible refine (strings_HasPrefix.calls a1 (⟨#[68, 73, 70, 70]⟩ : ByteArray) true _ A7.out).mono ?_); rintro e w' ⟨rfl, ⟨nd, rfl⟩⟩))
                go_meet
                case rel => exact ⟨_, (((a1.extract ((ji9) : Int).toNat ((wrap64 ((a1.size : Int) - 3)) : Int).toNat).toList != ([69, 78, 68] : List UInt8))), (by first | rfl | (simp; done) | (simp only [← hji9] <;> (first | rfl | simp)) | (simp [*]; done) | (simp; decide +kernel) | (simp [wrap64]; done) | (simp [bne]; done)), (by first | with_reducible exact H' | (have H2_ := H'; simp only [← hji9] at H2_ ⊢; with_reducible exact H2_) | exact H'), ⟨by first | omega | exact Nat.le_refl _⟩, ⟨by repeat (first | (with_reducible first | exact HB.out | apply below_alloc | apply pw_below_drewN | apply below_drew1) | exact HB.out)⟩⟩
              · rw [if_neg c12] at H
                exact absurd H (by simp)
            · rw [if_neg c11] at H
              exact absurd H (by simp)
          · rw [if_neg c10] at H
            exact absurd H (by simp)
        · replace c8 := Bool.eq_false_iff.mpr c8
          subst c8
          have H1 : (impl_Applied.j0 k a0 a1 true) = some (r1, r2) := by rw [if_neg (show ¬ (false = true) by decide)] at H; exact H
          clear H
          have H := H1
          clear H1
          have H' := Aside0.mk H
          clear H
          go_wp2_with (first | (go_at_call 38; (with_reducible refine (impl_within.calls (a1.size : Int) 10 80000 true _ A5.out).mono ?_); rintro e w' ⟨rfl, ⟨nd, rfl⟩⟩) | (go_at_call 39; (with_reducible refine (strings_HasPrefix.calls a1 (⟨#[68, 73, 70, 70]⟩ : ByteArray) false _ A7.out).mono ?_); rintro e w' ⟨rfl, ⟨nd, rfl⟩⟩))
          go_meet
          case rel => exact ⟨_, (true), (by first | rfl | (simp; done) | (simp [*]; done) | (simp; decide +kernel) | (simp [wrap64]; done) | (simp [bne]; done)), H', ⟨by first | omega | exact Nat.le_refl _⟩, ⟨by repeat (first | (with_reducible first | exact HB.out | apply below_alloc | apply pw_below_drewN | apply below_drew1) | exact HB.out)⟩⟩
      · replace c6 := Bool.eq_false_iff.mpr c6
        subst c6
        have H1 : (impl_Applied.j0 k a0 a1 true) = some (r1, r2) := by rw [if_neg (show ¬ (false = true) by decide)] at H; exact H
        clear H
        have H := H1
        clear H1
        have H' := Aside0.mk H
        clear H
        go_wp2_with (first | (go_at_call 38; (with_reducible refine (impl_within.calls (a1.size : Int) 10 80000 false _ A5.out).mono ?_); rintro e w' ⟨rfl, ⟨nd, rfl⟩⟩))
        go_meet
        case rel => exact ⟨_, (true), (by first | rfl | (simp; done) | (simp [*]; done) | (simp; decide +kernel) | (simp [wrap64]; done) | (simp [bne]; done)), H', ⟨by first | omega | exact Nat.le_refl _⟩, ⟨by repeat (first | (with_reducible first | exact HB.out | apply below_alloc | apply pw_below_drewN | apply below_drew1) | exact HB.out)⟩⟩
  case rest =>
    clear HC3
    try clear c1
    try clear p2
    try clear c4
    try clear c4b0
    try clear c4b1
    try clear c6
    try clear p6
    try clear c8
    try clear c10
    try clear c10b0
    try clear c10b1
    try clear c11
    try clear c11b0
    try clear c11b1
    try clear c12
    try clear c12b0
    try clear c12b1
    obtain ⟨kq, x35_2, rfl, HA, HJ2, HB⟩ := hcut
    cases kq with
    | zero => exact absurd HA.out (by simp [impl_Applied.j0])
    | succ kj2 =>
      have H := HA.out
      clear HA
      simp only [impl_Applied.j0] at H
      by_cases c13 : x35_2 = true
      · subst c13
        have H1 : (some ((⟨#[]⟩ : ByteArray), false)) = some (r1, r2) := by rw [if_pos rfl] at H; exact H
        clear H
        have H := H1
        clear H1
        simp only [Option.some.injEq, Prod.mk.injEq] at H
        obtain ⟨rfl, rfl⟩ := H
        go_wp2
        go_ret2
        exact ⟨by first | rfl | (simp [errW_none, errW_some] <;> rfl) | (simp [*, errW_none, errW_some] <;> rfl) | (exfalso; simp_all; done), by repeat (first | (with_reducible first | exact HB.out | apply below_alloc | apply pw_below_drewN | apply below_drew1) | exact HB.out)⟩
      · replace c13 := Bool.eq_false_iff.mpr c13
        subst c13
        have H1 : (if 0 ≤ (wrap64 ((a1.size : Int) - 3)) then (if (wrap64 ((a1.size : Int) - 3)) ≤ (a1.size : Int) then ((impl_bigOf.f kj2 (a1.extract ((wrap64 ((a1.size : Int) - 3)) : Int).toNat a1.size)).bind fun t159 => (if t159 > 20000 then (some ((⟨#[]⟩ : ByteArray), false)) else (if 0 ≤ t159 then (if (t159 : Int).toNat ≤ 281474976710656 then ((some (List.replicate (t159 : Int).toNat 0 : List Int)).bind fun y160 => (if 4 ≤ (wrap64 ((a1.size : Int) - 6)) then (if (wrap64 ((a1.size : Int) - 6)) ≤ (a1.size : Int) then (impl_Applied.l0 kj2 (a1.extract 4 ((wrap64 ((a1.size : Int) - 6)) : Int).toNat) t159 (cpy y160 0 (y160.length) (bytesOf a0)) 0) else (none)) else (none))) else (none)) else (none)))) else (none)) else (none)) = some (r1, r2) := by rw [if_neg (show ¬ (false = true) by decide)] at H; exact H
        clear H
        have H := H1
        clear H1
        obtain ⟨ji14, hji14⟩ : ∃ j_ : Int, (wrap64 ((a1.size : Int) - 3)) = j_ := ⟨_, rfl⟩
        replace H : (if 0 ≤ (ji14) then (if (ji14) ≤ (a1.size : Int) then ((impl_bigOf.f kj2 (a1.extract ((ji14) : Int).toNat a1.size)).bind fun t159 => (if t159 > 20000 then (some ((⟨#[]⟩ : ByteArray), false)) else (if 0 ≤ t159 then (if (t159 : Int).toNat ≤ 281474976710656 then ((some (List.replicate (t159 : Int).toNat 0 : List Int)).bind fun y160 => (if 4 ≤ (wrap64 ((a1.size : Int) - 6)) then (if (wrap64 ((a1.size : Int) - 6)) ≤ (a1.size : Int) then (impl_Applied.l0 kj2 (a1.extract 4 ((wrap64 ((a1.size : Int) - 6)) : Int).toNat) t159 (cpy y160 0 (y160.length) (bytesOf a0)) 0) else (none)) else (none))) else (none)) else (none)))) else (none)) else (none)) = some (r1, r2) := by first | (rw [hji14] at H; exact H) | (simp only [hji14] at H ⊢; exact H)
        have hji14w : (IntKind.i64.wrap ((a1.size : Int) - 3)) = ji14 := (i64_w _).trans hji14
        by_cases c15 : 0 ≤ (ji14)
        · rw [if_pos c15] at H
          have c15b0 := eq_true c15
          have c15b1 : decide (0 ≤ (ji14)) = true := decide_eq_true c15
          clear c15
          by_cases c16 : (ji14) ≤ (a1.size : Int)
          · rw [if_pos c16] at H
            have c16b0 := eq_true c16
            have c16b1 : decide ((ji14) ≤ (a1.size : Int)) = true := decide_eq_true c16
            clear c16
            replace H := Option.bind_eq_some_iff.mp H
            obtain ⟨t159, A170, H⟩ := H
            replace H : (if t159 > 20000 then (some ((⟨#[]⟩ : ByteArray), false)) else (if 0 ≤ t159 then (if (t159 : Int).toNat ≤ 281474976710656 then ((some (List.replicate (t159 : Int).toNat 0 : List Int)).bind fun y160 => (if 4 ≤ (wrap64 ((a1.size : Int) - 6)) then (if (wrap64 ((a1.size : Int) - 6)) ≤ (a1.size : Int) then (impl_Applied.l0 kj2 (a1.extract 4 ((wrap64 ((a1.size : Int) - 6)) : Int).toNat) t159 (cpy y160 0 (y160.length) (bytesOf a0)) 0) else (none)) else (none))) else (none)) else (none))) = some (r1, r2) := H
            have A17 := Aside0.mk A170
            clear A170
            by_cases c18 : t159 > 20000
            · rw [if_pos c18] at H
              have c18b0 : decide (20000 < t159) = true := decide_eq_true c18
              clear c18
              simp only [Option.some.injEq, Prod.mk.injEq] at H
              obtain ⟨rfl, rfl⟩ := H
              go_wp2_with (first | ((with_reducible refine gate_callee (f := 40) rfl ?_); refine goesL_ (some 41) rfl rfl Try.func40 (by kernel_rfl) rfl #[.string (a1.extract ((ji14) : Int).toNat a1.size)] rfl (by (try simp only [List.map_toArray, List.map_cons, List.map_nil]); first | done | (simp only [hji14]; rfl) | rfl | (simp only [List.length_drop, List.length_take]; rfl)) ?_; (with_reducible refine (impl_bigOf.calls kj2 (a1.extract ((ji14) : Int).toNat a1.size) t159 _ A17.out).mono ?_); rintro e w' ⟨rfl, ⟨nd, rfl⟩⟩; refine ⟨_, rfl, ?_⟩))
              go_ret2
              exact ⟨by first | rfl | (simp [errW_none, errW_some] <;> rfl) | (simp only [← hji14]; first | rfl | (simp [errW_none, errW_some] <;> rfl)) | (simp [*, errW_none, errW_some] <;> rfl) | (exfalso; simp_all; done), by repeat (first | (with_reducible first | exact HB.out | apply below_alloc | apply pw_below_drewN | apply below_drew1) | exact HB.out)⟩
            · rw [if_neg c18] at H
              have c18b0 : decide (20000 < t159) = false := decide_eq_false c18
              clear c18
              by_cases c19 : 0 ≤ t159
              · rw [if_pos c19] at H
                have c19b0 := eq_true c19
                have c19b1 : decide (0 ≤ t159) = true := decide_eq_true c19
                clear c19
                by_cases c20 : (t159 : Int).toNat ≤ 281474976710656
                · rw [if_pos c20] at H
                  have c20b0 := eq_true c20
                  have c20b1 : decide ((t159 : Int).toNat ≤ 281474976710656) = true := decide_eq_true c20
                  clear c20
                  obtain ⟨y160, hy160⟩ : ∃ y_ : List Int, y_ = (List.replicate (t159 : Int).toNat 0) := ⟨_, rfl⟩
                  replace H : (if 4 ≤ (wrap64 ((a1.size : Int) - 6)) then (if (wrap64 ((a1.size : Int) - 6)) ≤ (a1.size : Int) then (impl_Applied.l0 kj2 (a1.extract 4 ((wrap64 ((a1.size : Int) - 6)) : Int).toNat) t159 (cpy y160 0 (y160.length) (bytesOf a0)) 0) else (none)) else (none)) = some (r1, r2) := by first | (rw [hy160]; with_reducible exact H) | (have H2_ := (Option.bind_some _ _).symm.trans H; rw [hy160]; with_reducible exact H2_) | (have H2_ := (Option.bind_some _ _).symm.trans H; with_reducible exact H2_) | with_reducible exact H | (rw [hy160]; exact H) | exact H
                  have Ny160 := Aside0.mk hy160
                  clear hy160
                  obtain ⟨y163, hy163⟩ : ∃ y_ : List Int, y_ = (cpy y160 0 (y160.length) (bytesOf a0)) := ⟨_, rfl⟩
                  replace H : (if 4 ≤ (wrap64 ((a1.size : Int) - 6)) then (if (wrap64 ((a1.size : Int) - 6)) ≤ (a1.size : Int) then (impl_Applied.l0 kj2 (a1.extract 4 ((wrap64 ((a1.size : Int) - 6)) : Int).toNat) t159 y163 0) else (none)) else (none)) = some (r1, r2) := by first | (rw [hy163]; with_reducible exact H) | (have H2_ := (Option.bind_some _ _).symm.trans H; rw [hy163]; with_reducible exact H2_) | (have H2_ := (Option.bind_some _ _).symm.trans H; with_reducible exact H2_) | with_reducible exact H | (rw [hy163]; exact H) | exact H
                  have Ny163 := Aside0.mk hy163
                  clear hy163
                  by_cases c21 : 4 ≤ (wrap64 ((a1.size : Int) - 6))
                  · rw [if_pos c21] at H
                    have c21b0 := eq_true c21
                    have c21b1 : decide (4 ≤ (wrap64 ((a1.size : Int) - 6))) = true := decide_eq_true c21
                    clear c21
                    by_cases c22 : (wrap64 ((a1.size : Int) - 6)) ≤ (a1.size : Int)
                    · rw [if_pos c22] at H
                      have c22b0 := eq_true c22
                      have c22b1 : decide ((wrap64 ((a1.size : Int) - 6)) ≤ (a1.size : Int)) = true := decide_eq_true c22
                      clear c22
                      have H' := Aside0.mk H
                      clear H
                      go_wp2_with (first | ((with_reducible refine gate_callee (f := 40) rfl ?_); refine goesL_ (some 41) rfl rfl Try.func40 (by kernel_rfl) rfl #[.string (a1.extract ((ji14) : Int).toNat a1.size)] rfl (by (try simp only [List.map_toArray, List.map_cons, List.map_nil]); first | done | (simp only [hji14]; rfl) | rfl | (simp only [List.length_drop, List.length_take]; rfl)) ?_; (with_reducible refine (impl_bigOf.calls kj2 (a1.extract ((ji14) : Int).toNat a1.size) t159 _ A17.out).mono ?_); rintro e w' ⟨rfl, ⟨nd, rfl⟩⟩; refine ⟨_, rfl, ?_⟩) | ((with_reducible refine gate_dst (N := 45) rfl ?_); (try (refine gate_guard (by rfl) ?_; dsimp only)); refine Kd.R_make (Kd.int .u8) _ 5 rfl (N := 45) rfl 25 _ _ rfl t159 rfl rfl Try.underlying25 (.int .u8 0) 1 info5 rfl (by decide) (by omega) 0 (ok := fun _ => True) (okp := fun _ => True) rfl (fun _ hk => hk) trivial (of_decide_eq_true (by first | (with_reducible assumption) | assumption)) (Nat.le_trans (Nat.mul_le_mul_right _ (of_decide_eq_true (by first | (with_reducible assumption) | assumption) : t159.toNat ≤ 281474976710656)) (by omega)) (Below.refl _ _) (Nat.le_refl _) ?_; intro v161 w23 ho24 hb hg_ hnew_; clear hg_ hnew_; (first | rw [← Ny160.out] at ho24 | (simp only [Int.reduceToNat] at ho24; rw [← Ny160.out] at ho24)); have n0_ := Aside0.mk (Kd.R_lower ho24 (below_size (by repeat (first | (with_reducible first | exact HB.out | apply below_alloc | apply pw_below_drewN | apply below_drew1) | exact HB.out)))); have n1_ := Aside0.mk (below_step (by repeat (first | (with_reducible first | exact HB.out | apply below_alloc | apply pw_below_drewN | apply below_drew1) | exact HB.out)) hb); clear HB; have HO162 := n0_; have HB := n1_; clear n0_ n1_; clear hb ho24; obtain ⟨Ao27, co27, eo27⟩ := Kd.R_slice HO162.out; subst eo27) | ((with_reducible refine gate_builtin (b := .copy) rfl ?_); (try (refine gate_guard (by rfl) ?_; dsimp only)); have e_ := (Kd.R_reads' HO162.out).1; have hm_ : y160.length = (y160.length) := (by omega); have hv_ : cpy y160 0 y160.length (bytesOf a0) = y163 := (by rw [Ny163.out]; first | done | rw [hm_]); refine R_copy (w0 := w) w.heap.size rfl (.tmp 46) _ 25 _ 5 rfl Try.underlying25 (by kernel_rfl) (A0 := Ao27) (n := y160.length) (c := co27) (m := y160.length) (lo := 0) rfl rfl ?hA (by (with_reducible repeat (first | apply Kd.R_alloc | apply Kd.R_drewN | apply Kd.R_drew)); exact HO162.out) ?hl (by repeat (first | (with_reducible first | exact HB.out | apply below_alloc | apply pw_below_drewN | apply below_drew1) | exact HB.out)) (below_size (by repeat (first | (with_reducible first | exact HB.out | apply below_alloc | apply pw_below_drewN | apply below_drew1) | exact HB.out))) ?_; (case hA => exact .inl ⟨rfl, rfl⟩); (case hl => omega); intro w25 ho hb hg; rw [hv_] at ho; clear e_ hm_ hv_; have n0_ := Aside0.mk (ho); have n1_ := Aside0.mk (hb); clear HO162; clear HB; have HO162 := n0_; have HB := n1_; clear n0_ n1_; clear ho hb hg))
                      go_loopg [1, 8] kj2 (fun kq v1 v8 w' => ∃ (x1_2 : ByteArray) (x7_2 : List Int) (x8_2 : Int), v1 = .string x1_2 ∧ v8 = .int .i64 x8_2 ∧ Aside0 (impl_Applied.l0 kq x1_2 t159 x7_2 x8_2 = some (r1, r2)) ∧ Aside0 (kq ≤ kj2) ∧ Aside0 (Kd.R (Kd.int .u8) 5 w' w.heap.size (fun _ => True) (.slice Ao27 y160.length co27) x7_2) ∧ Aside0 (Below w.heap.size w w'))
                      case atStart => exact ⟨(a1.extract 4 ((wrap64 ((a1.size : Int) - 6)) : Int).toNat), (y163), (0), (by first | rfl | (simp; done) | (simp [*]; done) | (simp; decide +kernel) | (simp [wrap64]; done) | (simp [bne]; done)), (by first | rfl | (simp; done) | (simp [*]; done) | (simp; decide +kernel) | (simp [wrap64]; done) | (simp [bne]; done)), (by first | with_reducible exact H' | (have H2_ := H'; simp only [← hji14] at H2_ ⊢; with_reducible exact H2_) | exact H'), ⟨Nat.le_refl _⟩, ⟨by (with_reducible repeat (first | apply Kd.R_alloc | apply Kd.R_drewN | apply Kd.R_drew)); exact HO162.out⟩, ⟨by repeat (first | (with_reducible first | exact HB.out | apply below_alloc | apply pw_below_drewN | apply below_drew1) | exact HB.out)⟩⟩
                      case round =>
                        clear H'
                        try clear c1
                        try clear c2
                        try clear p2
                        try clear c4
                        try clear c4b0
                        try clear c4b1
                        try clear c6
                        try clear p6
                        try clear c8
                        try clear c10
                        try clear c10b0
                        try clear c10b1
                        try clear c11
                        try clear c11b0
                        try clear c11b1
                        try clear c12
                        try clear c12b0
                        try clear c12b1
                        try clear c13
                        try clear c14
                        try clear c15
                        try clear c15b0
                        try clear c15b1
                        try clear c16
                        try clear c16b0
                        try clear c16b1
                        try clear c18
                        try clear c18b0
                        try clear c19
                        try clear c19b0
                        try clear c19b1
                        try clear c20
                        try clear c20b0
                        try clear c20b1
                        try clear c21
                        try clear c21b0
                        try clear c21b1
                        try clear c22
                        try clear c22b0
                        try clear c22b1
                        try clear p2
                        try clear p6
                        obtain ⟨x1_2, x7_2, x8_2, rfl, rfl, HA, HK2, HO_7, HB⟩ := hrel
                        have hl7_2 := (Kd.R_reads' HO_7.out).1
                        rw [hl7_2] at HO_7
                        (try simp only [hl7_2])
                        cases gk with
                        | zero => exact absurd HA.out (by simp [impl_Applied.l0])
                        | succ k2 =>
                          have H := HA.out
                          clear HA
                          simp only [impl_Applied.l0] at H
                          by_cases c28 : x1_2.toList = ([] : List UInt8)
                          · rw [if_pos c28] at H
                            have c28b0 : (x1_2.toList == ([] : List UInt8)) = true := beq_iff_eq.mpr c28
                            have c28b1 : (x1_2.toList != ([] : List UInt8)) = false := bne_eq_false_iff_eq.mpr c28
                            clear c28
                            simp only [Option.some.injEq, Prod.mk.injEq] at H
                            obtain ⟨rfl, rfl⟩ := H
                            have hcv29 := own_string (P := Try.prog) Try.underlying25 Try.underlying5 Try.underlying9 (Kd.own_of_R HO_7.out)
                            go_wp2
                            go_ret2
                            exact ⟨by first | rfl | (simp [errW_none, errW_some] <;> rfl) | (simp only [← hji14]; first | rfl | (simp [errW_none, errW_some] <;> rfl)) | (simp [*, errW_none, errW_some] <;> rfl) | (exfalso; simp_all; done), by repeat (first | (with_reducible first | exact HB.out | apply below_alloc | apply pw_below_drewN | apply below_drew1) | exact HB.out)⟩
                          · rw [if_neg c28] at H
                            have c28b0 : (x1_2.toList == ([] : List UInt8)) = false := beq_eq_false_iff_ne.mpr c28
                            have c28b1 : (x1_2.toList != ([] : List UInt8)) = true := bne_iff_ne.mpr c28
                            by_cases c30 : (x1_2.size : Int) < 5
                            · rw [if_pos c30] at H
                              have c30b0 : decide ((x1_2.size : Int) < 5) = true := decide_eq_true c30
                              have c30b1 : decide (x1_2.size < 5) = true := decide_eq_true (by omega)
                              clear c30
                              simp only [Option.some.injEq, Prod.mk.injEq] at H
                              obtain ⟨rfl, rfl⟩ := H
                              go_wp2
                              go_ret2
                              exact ⟨by first | rfl | (simp [errW_none, errW_some] <;> rfl) | (simp only [← hji14]; first | rfl | (simp [errW_none, errW_some] <;> rfl)) | (simp [*, errW_none, errW_some] <;> rfl) | (exfalso; simp_all; done), by repeat (first | (with_reducible first | exact HB.out | apply below_alloc | apply pw_below_drewN | apply below_drew1) | exact HB.out)⟩
                            · rw [if_neg c30] at H
                              have c30b0 : decide ((x1_2.size : Int) < 5) = false := decide_eq_false c30
                              have c30b1 : decide (x1_2.size < 5) = false := decide_eq_false (by omega)
                              clear c30
                              by_cases c31 : 0 ≤ 3
                              · rw [if_pos c31] at H
                                have c31b0 := eq_true c31
                                have c31b1 : decide (0 ≤ 3) = true := decide_eq_true c31
                                clear c31
                                by_cases c32 : 3 ≤ (x1_2.size : Int)
                                · rw [if_pos c32] at H
                                  have c32b0 := eq_true c32
                                  have c32b1 : decide (3 ≤ (x1_2.size : Int)) = true := decide_eq_true c32
                                  clear c32
                                  replace H := Option.bind_eq_some_iff.mp H
                                  obtain ⟨t164, A330, H⟩ := H
                                  replace H : (if 3 ≤ 5 then (if 5 ≤ (x1_2.size : Int) then ((impl_bigOf.f k2 (x1_2.extract 3 5)).bind fun t165 => (if t165 = 0 then (some ((⟨#[]⟩ : ByteArray), false)) else (if t165 > ((x1_2.extract 5 x1_2.size).size : Int) then (some ((⟨#[]⟩ : ByteArray), false)) else (if t164 < x8_2 then (some ((⟨#[]⟩ : ByteArray), false)) else (if (wrap64 (t164 + t165)) > t159 then (some ((⟨#[]⟩ : ByteArray), false)) else (if 0 ≤ t164 then (if t164 ≤ (x7_2.length : Int) then (if 0 ≤ t165 then (if t165 ≤ ((x1_2.extract 5 x1_2.size).size : Int) then (impl_Applied.l0 k2 ((x1_2.extract 5 x1_2.size).extract (t165 : Int).toNat (x1_2.extract 5 x1_2.size).size) t159 (cpy x7_2 (t164 : Int).toNat (x7_2.length - (t164 : Int).toNat) (bytesOf ((x1_2.extract 5 x1_2.size).extract 0 (t165 : Int).toNat))) (wrap64 (t164 + t165))) else (none)) else (none)) else (none)) else (none))))))) else (none)) else (none)) = some (r1, r2) := H
                                  have A33 := Aside0.mk A330
                                  clear A330
                                  by_cases c34 : 3 ≤ 5
                                  · rw [if_pos c34] at H
                                    have c34b0 := eq_true c34
                                    have c34b1 : decide (3 ≤ 5) = true := decide_eq_true c34
                                    clear c34
                                    by_cases c35 : 5 ≤ (x1_2.size : Int)
                                    · rw [if_pos c35] at H
                                      have c35b0 := eq_true c35
                                      have c35b1 : decide (5 ≤ (x1_2.size : Int)) = true := decide_eq_true c35
                                      clear c35
                                      replace H := Option.bind_eq_some_iff.mp H
                                      obtain ⟨t165, A360, H⟩ := H
                                      replace H : (if t165 = 0 then (some ((⟨#[]⟩ : ByteArray), false)) else (if t165 > ((x1_2.extract 5 x1_2.size).size : Int) then (some ((⟨#[]⟩ : ByteArray), false)) else (if t164 < x8_2 then (some ((⟨#[]⟩ : ByteArray), false)) else (if (wrap64 (t164 + t165)) > t159 then (some ((⟨#[]⟩ : ByteArray), false)) else (if 0 ≤ t164 then (if t164 ≤ (x7_2.length : Int) then (if 0 ≤ t165 then (if t165 ≤ ((x1_2.extract 5 x1_2.size).size : Int) then (impl_Applied.l0 k2 ((x1_2.extract 5 x1_2.size).extract (t165 : Int).toNat (x1_2.extract 5 x1_2.size).size) t159 (cpy x7_2 (t164 : Int).toNat (x7_2.length - (t164 : Int).toNat) (bytesOf ((x1_2.extract 5 x1_2.size).extract 0 (t165 : Int).toNat))) (wrap64 (t164 + t165))) else (none)) else (none)) else (none)) else (none)))))) = some (r1, r2) := H
                                      have A36 := Aside0.mk A360
                                      clear A360
                                      have c37b0 := eq_true (of_decide_eq_true (by first | (with_reducible assumption) | assumption) : 5 ≤ (x1_2.size : Int))
                                      by_cases c38 : t165 = 0
                                      · rw [if_pos c38] at H
                                        have c38b0 : (t165 == 0) = true := beq_iff_eq.mpr c38
                                        have c38b1 : (t165 != 0) = false := bne_eq_false_iff_eq.mpr c38
                                        clear c38
                                        simp only [Option.some.injEq, Prod.mk.injEq] at H
                                        obtain ⟨rfl, rfl⟩ := H
                                        try go_wp2
                                        have n0_ := Aside0.mk (Kd.R_drew HO_7.out)
                                        have n1_ := Aside0.mk (below_drew1 HB.out)
                                        clear HO_7
                                        clear HB
                                        have HO_7 := n0_
                                        have HB := n1_
                                        clear n0_ n1_
                                        refine start_ (n := 8) (S := fun w' => True) (ds := []) #[false, false, false, false, false, false, false, false] (by kernel_rfl) rfl rfl trivial (fun hHeld => ?_); refine with_tabW impl_Applied.tab13 impl_Applied.bits13 (fun HT_ HW_ => ?_)
                                        generalize wr.drew = w39 at HO_7 HB hHeld ⊢
                                        refine pure_ (i := 0) (N := some 59) (v := ?_) (a' := ?_) #[true, false, false, false, false, false, false, false] rfl rfl (any_of HT_.out (by kernel_rfl)) (fun _ _ _ h => h) (Or.inl ⟨by rfl, ?_⟩) ?_ ?_
                                        rotate_left
                                        · intro w'
                                          go_simp
                                          with_reducible rfl
                                        rotate_left
                                        · simp only [Act.put, List.setIfInBounds_toArray, List.set_cons_zero, List.set_cons_succ, i64_w, i32_w]
                                          rfl
                                        refine pure_ (i := 1) (N := some 60) (v := ?_) (a' := ?_) #[true, true, false, false, false, false, false, false] rfl rfl (any_of HT_.out (by kernel_rfl)) (fun _ _ _ h => h) (Or.inl ⟨by rfl, ?_⟩) ?_ ?_
                                        rotate_left
                                        · intro w'
                                          go_simp
                                          with_reducible rfl
                                        rotate_left
                                        · simp only [Act.put, List.setIfInBounds_toArray, List.set_cons_zero, List.set_cons_succ, i64_w, i32_w]
                                          rfl
                                        refine pure_ (i := 3) (N := some 62) (v := ?_) (a' := ?_) #[true, true, false, true, false, false, false, false] rfl rfl (any_of HT_.out (by kernel_rfl)) (fun _ _ _ h => h) (Or.inl ⟨by rfl, ?_⟩) ?_ ?_
                                        rotate_left
                                        · intro w'
                                          go_simp
                                          with_reducible rfl
                                        rotate_left
                                        · simp only [Act.put, List.setIfInBounds_toArray, List.set_cons_zero, List.set_cons_succ, i64_w, i32_w]
                                          rfl
                                        refine pure_ (i := 4) (N := some 63) (v := ?_) (a' := ?_) #[true, true, false, true, true, false, false, false] rfl rfl (any_of HT_.out (by kernel_rfl)) (fun _ _ _ h => h) (Or.inl ⟨by rfl, ?_⟩) ?_ ?_
                                        rotate_left
                                        · intro w'
                                          go_simp
                                          with_reducible rfl
                                        rotate_left
                                        · simp only [Act.put, List.setIfInBounds_toArray, List.set_cons_zero, List.set_cons_succ, i64_w, i32_w]
                                          rfl
                                        refine one_ (i := 2) (N := some 61) #[true, true, true, true, true, false, false, false] rfl rfl (one_of HT_.out (by kernel_rfl)) (by decide) (fun K hK => ?_)
                                        refine goes_ Try.func40 (by kernel_rfl) rfl #[.string (x1_2.extract 0 3)] (by rfl) rfl rfl (by (try simp only [List.map_toArray, List.map_cons, List.map_nil]); first | done | rfl | (simp only [List.length_drop, List.length_take]; rfl)) ?_
                                        with_reducible refine (impl_bigOf.calls k2 (x1_2.extract 0 3) t164 _ A33.out).mono ?_
                                        rintro e w' ⟨rfl, ⟨nd, rfl⟩⟩
                                        refine ⟨_, rfl, ?_⟩
                                        refine hK.out _ _ trivial (fun hHeld => ?_)
                                        clear hK K
                                        refine norm_ (a' := ?_) ?_ ?_
                                        rotate_left
                                        · show Act.put _ (some 61) _ = _
                                          simp only [Act.put, List.setIfInBounds_toArray, List.set_cons_zero, List.set_cons_succ, i64_w, i32_w]
                                          rfl
                                        refine one_ (i := 5) (N := some 64) #[true, true, true, true, true, true, false, false] rfl rfl (one_of HT_.out (by kernel_rfl)) (by decide) (fun K hK => ?_)
                                        refine goes_ Try.func40 (by kernel_rfl) rfl #[.string (x1_2.extract 3 5)] (by rfl) rfl rfl (by (try simp only [List.map_toArray, List.map_cons, List.map_nil]); first | done | rfl | (simp only [List.length_drop, List.length_take]; rfl)) ?_
                                        with_reducible refine (impl_bigOf.calls k2 (x1_2.extract 3 5) t165 _ A36.out).mono ?_
                                        rintro e w' ⟨rfl, ⟨nd, rfl⟩⟩
                                        refine ⟨_, rfl, ?_⟩
                                        refine hK.out _ _ trivial (fun hHeld => ?_)
                                        clear hK K
                                        refine norm_ (a' := ?_) ?_ ?_
                                        rotate_left
                                        · show Act.put _ (some 64) _ = _
                                          simp only [Act.put, List.setIfInBounds_toArray, List.set_cons_zero, List.set_cons_succ, i64_w, i32_w]
                                          rfl
                                        refine pure_ (i := 6) (N := some 9) (v := ?_) (a' := ?_) #[true, true, true, true, true, true, true, false] rfl rfl (any_of HT_.out (by kernel_rfl)) (fun _ _ _ h => h) (Or.inl ⟨by rfl, ?_⟩) ?_ ?_
                                        rotate_left
                                        · intro w'
                                          go_simp
                                          with_reducible rfl
                                        rotate_left
                                        · simp only [Act.put, List.setIfInBounds_toArray, List.set_cons_zero, List.set_cons_succ, i64_w, i32_w]
                                          rfl
                                        refine pure_ (i := 7) (N := some 10) (v := ?_) (a' := ?_) #[true, true, true, true, true, true, true, true] rfl rfl (any_of HT_.out (by kernel_rfl)) (fun _ _ _ h => h) (Or.inl ⟨by rfl, ?_⟩) ?_ ?_
                                        rotate_left
                                        · intro w'
                                          go_simp
                                          with_reducible rfl
                                        rotate_left
                                        · simp only [Act.put, List.setIfInBounds_toArray, List.set_cons_zero, List.set_cons_succ, i64_w, i32_w]
                                          rfl
                                        refine done_ (done_of HT_.out (by kernel_rfl)) ?_
                                        try go_wp2
                                        go_ret2
                                        exact ⟨by first | rfl | (simp [errW_none, errW_some] <;> rfl) | (simp only [← hji14]; first | rfl | (simp [errW_none, errW_some] <;> rfl)) | (simp [*, errW_none, errW_some] <;> rfl) | (exfalso; simp_all; done), by repeat (first | (with_reducible first | exact HB.out | apply below_alloc | apply pw_below_drewN | apply below_drew1) | exact HB.out)⟩
                                      · rw [if_neg c38] at H
                                        have c38b0 : (t165 == 0) = false := beq_eq_false_iff_ne.mpr c38
                                        have c38b1 : (t165 != 0) = true := bne_iff_ne.mpr c38
                                        by_cases c40 : t165 > ((x1_2.extract 5 x1_2.size).size : Int)
                                        · rw [if_pos c40] at H
                                          have c40b0 : decide (((x1_2.extract 5 x1_2.size).size : Int) < t165) = true := decide_eq_true c40
                                          (try (have c40b0e := c40b0; simp only [ByteArray.size_append, ByteArray.size_extract, Nat.min_self, Nat.sub_zero] at c40b0e))
                                          clear c40
                                          simp only [Option.some.injEq, Prod.mk.injEq] at H
                                          obtain ⟨rfl, rfl⟩ := H
                                          try go_wp2
                                          have n0_ := Aside0.mk (Kd.R_drew HO_7.out)
                                          have n1_ := Aside0.mk (below_drew1 HB.out)
                                          clear HO_7
                                          clear HB
                                          have HO_7 := n0_
                                          have HB := n1_
                                          clear n0_ n1_
                                          refine start_ (n := 8) (S := fun w' => True) (ds := []) #[false, false, false, false, false, false, false, false] (by kernel_rfl) rfl rfl trivial (fun hHeld => ?_); refine with_tabW impl_Applied.tab13 impl_Applied.bits13 (fun HT_ HW_ => ?_)
                                          generalize wr.drew = w41 at HO_7 HB hHeld ⊢
                                          refine pure_ (i := 0) (N := some 59) (v := ?_) (a' := ?_) #[true, false, false, false, false, false, false, false] rfl rfl (any_of HT_.out (by kernel_rfl)) (fun _ _ _ h => h) (Or.inl ⟨by rfl, ?_⟩) ?_ ?_
                                          rotate_left
                                          · intro w'
                                            go_simp
                                            with_reducible rfl
                                          rotate_left
                                          · simp only [Act.put, List.setIfInBounds_toArray, List.set_cons_zero, List.set_cons_succ, i64_w, i32_w]
                                            rfl
                                          refine pure_ (i := 1) (N := some 60) (v := ?_) (a' := ?_) #[true, true, false, false, false, false, false, false] rfl rfl (any_of HT_.out (by kernel_rfl)) (fun _ _ _ h => h) (Or.inl ⟨by rfl, ?_⟩) ?_ ?_
                                          rotate_left
                                          · intro w'
                                            go_simp
                                            with_reducible rfl
                                          rotate_left
                                          · simp only [Act.put, List.setIfInBounds_toArray, List.set_cons_zero, List.set_cons_succ, i64_w, i32_w]
                                            rfl
                                          refine pure_ (i := 3) (N := some 62) (v := ?_) (a' := ?_) #[true, true, false, true, false, false, false, false] rfl rfl (any_of HT_.out (by kernel_rfl)) (fun _ _ _ h => h) (Or.inl ⟨by rfl, ?_⟩) ?_ ?_
                                          rotate_left
                                          · intro w'
                                            go_simp
                                            with_reducible rfl
                                          rotate_left
                                          · simp only [Act.put, List.setIfInBounds_toArray, List.set_cons_zero, List.set_cons_succ, i64_w, i32_w]
                                            rfl
                                          refine pure_ (i := 4) (N := some 63) (v := ?_) (a' := ?_) #[true, true, false, true, true, false, false, false] rfl rfl (any_of HT_.out (by kernel_rfl)) (fun _ _ _ h => h) (Or.inl ⟨by rfl, ?_⟩) ?_ ?_
                                          rotate_left
                                          · intro w'
                                            go_simp
                                            with_reducible rfl
                                          rotate_left
                                          · simp only [Act.put, List.setIfInBounds_toArray, List.set_cons_zero, List.set_cons_succ, i64_w, i32_w]
                                            rfl
                                          refine one_ (i := 2) (N := some 61) #[true, true, true, true, true, false, false, false] rfl rfl (one_of HT_.out (by kernel_rfl)) (by decide) (fun K hK => ?_)
                                          refine goes_ Try.func40 (by kernel_rfl) rfl #[.string (x1_2.extract 0 3)] (by rfl) rfl rfl (by (try simp only [List.map_toArray, List.map_cons, List.map_nil]); first | done | rfl | (simp only [List.length_drop, List.length_take]; rfl)) ?_
                                          with_reducible refine (impl_bigOf.calls k2 (x1_2.extract 0 3) t164 _ A33.out).mono ?_
                                          rintro e w' ⟨rfl, ⟨nd, rfl⟩⟩
                                          refine ⟨_, rfl, ?_⟩
                                          refine hK.out _ _ trivial (fun hHeld => ?_)
                                          clear hK K
                                          refine norm_ (a' := ?_) ?_ ?_
                                          rotate_left
                                          · show Act.put _ (some 61) _ = _
                                            simp only [Act.put, List.setIfInBounds_toArray, List.set_cons_zero, List.set_cons_succ, i64_w, i32_w]
                                            rfl
                                          refine one_ (i := 5) (N := some 64) #[true, true, true, true, true, true, false, false] rfl rfl (one_of HT_.out (by kernel_rfl)) (by decide) (fun K hK => ?_)
                                          refine goes_ Try.func40 (by kernel_rfl) rfl #[.string (x1_2.extract 3 5)] (by rfl) rfl rfl (by (try simp only [List.map_toArray, List.map_cons, List.map_nil]); first | done | rfl | (simp only [List.length_drop, List.length_take]; rfl)) ?_
                                          with_reducible refine (impl_bigOf.calls k2 (x1_2.extract 3 5) t165 _ A36.out).mono ?_
                                          rintro e w' ⟨rfl, ⟨nd, rfl⟩⟩
                                          refine ⟨_, rfl, ?_⟩
                                          refine hK.out _ _ trivial (fun hHeld => ?_)
                                          clear hK K
                                          refine norm_ (a' := ?_) ?_ ?_
                                          rotate_left
                                          · show Act.put _ (some 64) _ = _
                                            simp only [Act.put, List.setIfInBounds_toArray, List.set_cons_zero, List.set_cons_succ, i64_w, i32_w]
                                            rfl
                                          refine pure_ (i := 6) (N := some 9) (v := ?_) (a' := ?_) #[true, true, true, true, true, true, true, false] rfl rfl (any_of HT_.out (by kernel_rfl)) (fun _ _ _ h => h) (Or.inl ⟨by rfl, ?_⟩) ?_ ?_
                                          rotate_left
                                          · intro w'
                                            go_simp
                                            with_reducible rfl
                                          rotate_left
                                          · simp only [Act.put, List.setIfInBounds_toArray, List.set_cons_zero, List.set_cons_succ, i64_w, i32_w]
                                            rfl
                                          refine pure_ (i := 7) (N := some 10) (v := ?_) (a' := ?_) #[true, true, true, true, true, true, true, true] rfl rfl (any_of HT_.out (by kernel_rfl)) (fun _ _ _ h => h) (Or.inl ⟨by rfl, ?_⟩) ?_ ?_
                                          rotate_left
                                          · intro w'
                                            go_simp
                                            with_reducible rfl
                                          rotate_left
                                          · simp only [Act.put, List.setIfInBounds_toArray, List.set_cons_zero, List.set_cons_succ, i64_w, i32_w]
                                            rfl
                                          refine done_ (done_of HT_.out (by kernel_rfl)) ?_
                                          try go_wp2
                                          go_ret2
                                          exact ⟨by first | rfl | (simp [errW_none, errW_some] <;> rfl) | (simp only [← hji14]; first | rfl | (simp [errW_none, errW_some] <;> rfl)) | (simp [*, errW_none, errW_some] <;> rfl) | (exfalso; simp_all; done), by repeat (first | (with_reducible first | exact HB.out | apply below_alloc | apply pw_below_drewN | apply below_drew1) | exact HB.out)⟩
                                        · rw [if_neg c40] at H
                                          have c40b0 : decide (((x1_2.extract 5 x1_2.size).size : Int) < t165) = false := decide_eq_false c40
                                          (try (have c40b0e := c40b0; simp only [ByteArray.size_append, ByteArray.size_extract, Nat.min_self, Nat.sub_zero] at c40b0e))
                                          clear c40
                                          by_cases c42 : t164 < x8_2
                                          · rw [if_pos c42] at H
                                            have c42b0 : decide (t164 < x8_2) = true := decide_eq_true c42
                                            clear c42
                                            simp only [Option.some.injEq, Prod.mk.injEq] at H
                                            obtain ⟨rfl, rfl⟩ := H
                                            try go_wp2
                                            have n0_ := Aside0.mk (Kd.R_drew HO_7.out)
                                            have n1_ := Aside0.mk (below_drew1 HB.out)
                                            clear HO_7
                                            clear HB
                                            have HO_7 := n0_
                                            have HB := n1_
                                            clear n0_ n1_
                                            refine start_ (n := 8) (S := fun w' => True) (ds := []) #[false, false, false, false, false, false, false, false] (by kernel_rfl) rfl rfl trivial (fun hHeld => ?_); refine with_tabW impl_Applied.tab13 impl_Applied.bits13 (fun HT_ HW_ => ?_)
                                            generalize wr.drew = w43 at HO_7 HB hHeld ⊢
                                            refine pure_ (i := 0) (N := some 59) (v := ?_) (a' := ?_) #[true, false, false, false, false, false, false, false] rfl rfl (any_of HT_.out (by kernel_rfl)) (fun _ _ _ h => h) (Or.inl ⟨by rfl, ?_⟩) ?_ ?_
                                            rotate_left
                                            · intro w'
                                              go_simp
                                              with_reducible rfl
                                            rotate_left
                                            · simp only [Act.put, List.setIfInBounds_toArray, List.set_cons_zero, List.set_cons_succ, i64_w, i32_w]
                                              rfl
                                            refine pure_ (i := 1) (N := some 60) (v := ?_) (a' := ?_) #[true, true, false, false, false, false, false, false] rfl rfl (any_of HT_.out (by kernel_rfl)) (fun _ _ _ h => h) (Or.inl ⟨by rfl, ?_⟩) ?_ ?_
                                            rotate_left
                                            · intro w'
                                              go_simp
                                              with_reducible rfl
                                            rotate_left
                                            · simp only [Act.put, List.setIfInBounds_toArray, List.set_cons_zero, List.set_cons_succ, i64_w, i32_w]
                                              rfl
                                            refine pure_ (i := 3) (N := some 62) (v := ?_) (a' := ?_) #[true, true, false, true, false, false, false, false] rfl rfl (any_of HT_.out (by kernel_rfl)) (fun _ _ _ h => h) (Or.inl ⟨by rfl, ?_⟩) ?_ ?_
                                            rotate_left
                                            · intro w'
                                              go_simp
                                              with_reducible rfl
                                            rotate_left
                                            · simp only [Act.put, List.setIfInBounds_toArray, List.set_cons_zero, List.set_cons_succ, i64_w, i32_w]
                                              rfl
                                            refine pure_ (i := 4) (N := some 63) (v := ?_) (a' := ?_) #[true, true, false, true, true, false, false, false] rfl rfl (any_of HT_.out (by kernel_rfl)) (fun _ _ _ h => h) (Or.inl ⟨by rfl, ?_⟩) ?_ ?_
                                            rotate_left
                                            · intro w'
                                              go_simp
                                              with_reducible rfl
                                            rotate_left
                                            · simp only [Act.put, List.setIfInBounds_toArray, List.set_cons_zero, List.set_cons_succ, i64_w, i32_w]
                                              rfl
                                            refine one_ (i := 2) (N := some 61) #[true, true, true, true, true, false, false, false] rfl rfl (one_of HT_.out (by kernel_rfl)) (by decide) (fun K hK => ?_)
                                            refine goes_ Try.func40 (by kernel_rfl) rfl #[.string (x1_2.extract 0 3)] (by rfl) rfl rfl (by (try simp only [List.map_toArray, List.map_cons, List.map_nil]); first | done | rfl | (simp only [List.length_drop, List.length_take]; rfl)) ?_
                                            with_reducible refine (impl_bigOf.calls k2 (x1_2.extract 0 3) t164 _ A33.out).mono ?_
                                            rintro e w' ⟨rfl, ⟨nd, rfl⟩⟩
                                            refine ⟨_, rfl, ?_⟩
                                            refine hK.out _ _ trivial (fun hHeld => ?_)
                                            clear hK K
                                            refine norm_ (a' := ?_) ?_ ?_
                                            rotate_left
                                            · show Act.put _ (some 61) _ = _
                                              simp only [Act.put, List.setIfInBounds_toArray, List.set_cons_zero, List.set_cons_succ, i64_w, i32_w]
                                              rfl
                                            refine one_ (i := 5) (N := some 64) #[true, true, true, true, true, true, false, false] rfl rfl (one_of HT_.out (by kernel_rfl)) (by decide) (fun K hK => ?_)
                                            refine goes_ Try.func40 (by kernel_rfl) rfl #[.string (x1_2.extract 3 5)] (by rfl) rfl rfl (by (try simp only [List.map_toArray, List.map_cons, List.map_nil]); first | done | rfl | (simp only [List.length_drop, List.length_take]; rfl)) ?_
                                            with_reducible refine (impl_bigOf.calls k2 (x1_2.extract 3 5) t165 _ A36.out).mono ?_
                                            rintro e w' ⟨rfl, ⟨nd, rfl⟩⟩
                                            refine ⟨_, rfl, ?_⟩
                                            refine hK.out _ _ trivial (fun hHeld => ?_)
                                            clear hK K
                                            refine norm_ (a' := ?_) ?_ ?_
                                            rotate_left
                                            · show Act.put _ (some 64) _ = _
                                              simp only [Act.put, List.setIfInBounds_toArray, List.set_cons_zero, List.set_cons_succ, i64_w, i32_w]
                                              rfl
                                            refine pure_ (i := 6) (N := some 9) (v := ?_) (a' := ?_) #[true, true, true, true, true, true, true, false] rfl rfl (any_of HT_.out (by kernel_rfl)) (fun _ _ _ h => h) (Or.inl ⟨by rfl, ?_⟩) ?_ ?_
                                            rotate_left
                                            · intro w'
                                              go_simp
                                              with_reducible rfl
                                            rotate_left
                                            · simp only [Act.put, List.setIfInBounds_toArray, List.set_cons_zero, List.set_cons_succ, i64_w, i32_w]
                                              rfl
                                            refine pure_ (i := 7) (N := some 10) (v := ?_) (a' := ?_) #[true, true, true, true, true, true, true, true] rfl rfl (any_of HT_.out (by kernel_rfl)) (fun _ _ _ h => h) (Or.inl ⟨by rfl, ?_⟩) ?_ ?_
                                            rotate_left
                                            · intro w'
                                              go_simp
                                              with_reducible rfl
                                            rotate_left
                                            · simp only [Act.put, List.setIfInBounds_toArray, List.set_cons_zero, List.set_cons_succ, i64_w, i32_w]
                                              rfl
                                            refine done_ (done_of HT_.out (by kernel_rfl)) ?_
                                            try go_wp2
                                            go_ret2
                                            exact ⟨by first | rfl | (simp [errW_none, errW_some] <;> rfl) | (simp only [← hji14]; first | rfl | (simp [errW_none, errW_some] <;> rfl)) | (simp [*, errW_none, errW_some] <;> rfl) | (exfalso; simp_all; done), by repeat (first | (with_reducible first | exact HB.out | apply below_alloc | apply pw_below_drewN | apply below_drew1) | exact HB.out)⟩
                                          · rw [if_neg c42] at H
                                            have c42b0 : decide (t164 < x8_2) = false := decide_eq_false c42
                                            clear c42
                                            by_cases c44 : (wrap64 (t164 + t165)) > t159
                                            · rw [if_pos c44] at H
                                              have c44b0 : decide (t159 < (wrap64 (t164 + t165))) = true := decide_eq_true c44
                                              clear c44
                                              simp only [Option.some.injEq, Prod.mk.injEq] at H
                                              obtain ⟨rfl, rfl⟩ := H
                                              try go_wp2
                                              have n0_ := Aside0.mk (Kd.R_drew HO_7.out)
                                              have n1_ := Aside0.mk (below_drew1 HB.out)
                                              clear HO_7
                                              clear HB
                                              have HO_7 := n0_
                                              have HB := n1_
                                              clear n0_ n1_
                                              refine start_ (n := 8) (S := fun w' => True) (ds := []) #[false, false, false, false, false, false, false, false] (by kernel_rfl) rfl rfl trivial (fun hHeld => ?_); refine with_tabW impl_Applied.tab13 impl_Applied.bits13 (fun HT_ HW_ => ?_)
                                              generalize wr.drew = w45 at HO_7 HB hHeld ⊢
                                              refine pure_ (i := 0) (N := some 59) (v := ?_) (a' := ?_) #[true, false, false, false, false, false, false, false] rfl rfl (any_of HT_.out (by kernel_rfl)) (fun _ _ _ h => h) (Or.inl ⟨by rfl, ?_⟩) ?_ ?_
                                              rotate_left
                                              · intro w'
                                                go_simp
                                                with_reducible rfl
                                              rotate_left
                                              · simp only [Act.put, List.setIfInBounds_toArray, List.set_cons_zero, List.set_cons_succ, i64_w, i32_w]
                                                rfl
                                              refine pure_ (i := 1) (N := some 60) (v := ?_) (a' := ?_) #[true, true, false, false, false, false, false, false] rfl rfl (any_of HT_.out (by kernel_rfl)) (fun _ _ _ h => h) (Or.inl ⟨by rfl, ?_⟩) ?_ ?_
                                              rotate_left
                                              · intro w'
                                                go_simp
                                                with_reducible rfl
                                              rotate_left
                                              · simp only [Act.put, List.setIfInBounds_toArray, List.set_cons_zero, List.set_cons_succ, i64_w, i32_w]
                                                rfl
                                              refine pure_ (i := 3) (N := some 62) (v := ?_) (a' := ?_) #[true, true, false, true, false, false, false, false] rfl rfl (any_of HT_.out (by kernel_rfl)) (fun _ _ _ h => h) (Or.inl ⟨by rfl, ?_⟩) ?_ ?_
                                              rotate_left
                                              · intro w'
                                                go_simp
                                                with_reducible rfl
                                              rotate_left
                                              · simp only [Act.put, List.setIfInBounds_toArray, List.set_cons_zero, List.set_cons_succ, i64_w, i32_w]
                                                rfl
                                              refine pure_ (i := 4) (N := some 63) (v := ?_) (a' := ?_) #[true, true, false, true, true, false, false, false] rfl rfl (any_of HT_.out (by kernel_rfl)) (fun _ _ _ h => h) (Or.inl ⟨by rfl, ?_⟩) ?_ ?_
                                              rotate_left
                                              · intro w'
                                                go_simp
                                                with_reducible rfl
                                              rotate_left
                                              · simp only [Act.put, List.setIfInBounds_toArray, List.set_cons_zero, List.set_cons_succ, i64_w, i32_w]
                                                rfl
                                              refine one_ (i := 2) (N := some 61) #[true, true, true, true, true, false, false, false] rfl rfl (one_of HT_.out (by kernel_rfl)) (by decide) (fun K hK => ?_)
                                              refine goes_ Try.func40 (by kernel_rfl) rfl #[.string (x1_2.extract 0 3)] (by rfl) rfl rfl (by (try simp only [List.map_toArray, List.map_cons, List.map_nil]); first | done | rfl | (simp only [List.length_drop, List.length_take]; rfl)) ?_
                                              with_reducible refine (impl_bigOf.calls k2 (x1_2.extract 0 3) t164 _ A33.out).mono ?_
                                              rintro e w' ⟨rfl, ⟨nd, rfl⟩⟩
                                              refine ⟨_, rfl, ?_⟩
                                              refine hK.out _ _ trivial (fun hHeld => ?_)
                                              clear hK K
                                              refine norm_ (a' := ?_) ?_ ?_
                                              rotate_left
                                              · show Act.put _ (some 61) _ = _
                                                simp only [Act.put, List.setIfInBounds_toArray, List.set_cons_zero, List.set_cons_succ, i64_w, i32_w]
                                                rfl
                                              refine one_ (i := 5) (N := some 64) #[true, true, true, true, true, true, false, false] rfl rfl (one_of HT_.out (by kernel_rfl)) (by decide) (fun K hK => ?_)
                                              refine goes_ Try.func40 (by kernel_rfl) rfl #[.string (x1_2.extract 3 5)] (by rfl) rfl rfl (by (try simp only [List.map_toArray, List.map_cons, List.map_nil]); first | done | rfl | (simp only [List.length_drop, List.length_take]; rfl)) ?_
                                              with_reducible refine (impl_bigOf.calls k2 (x1_2.extract 3 5) t165 _ A36.out).mono ?_
                                              rintro e w' ⟨rfl, ⟨nd, rfl⟩⟩
                                              refine ⟨_, rfl, ?_⟩
                                              refine hK.out _ _ trivial (fun hHeld => ?_)
                                              clear hK K
                                              refine norm_ (a' := ?_) ?_ ?_
                                              rotate_left
                                              · show Act.put _ (some 64) _ = _
                                                simp only [Act.put, List.setIfInBounds_toArray, List.set_cons_zero, List.set_cons_succ, i64_w, i32_w]
                                                rfl
                                              refine pure_ (i := 6) (N := some 9) (v := ?_) (a' := ?_) #[true, true, true, true, true, true, true, false] rfl rfl (any_of HT_.out (by kernel_rfl)) (fun _ _ _ h => h) (Or.inl ⟨by rfl, ?_⟩) ?_ ?_
                                              rotate_left
                                              · intro w'
                                                go_simp
                                                with_reducible rfl
                                              rotate_left
                                              · simp only [Act.put, List.setIfInBounds_toArray, List.set_cons_zero, List.set_cons_succ, i64_w, i32_w]
                                                rfl
                                              refine pure_ (i := 7) (N := some 10) (v := ?_) (a' := ?_) #[true, true, true, true, true, true, true, true] rfl rfl (any_of HT_.out (by kernel_rfl)) (fun _ _ _ h => h) (Or.inl ⟨by rfl, ?_⟩) ?_ ?_
                                              rotate_left
                                              · intro w'
                                                go_simp
                                                with_reducible rfl
                                              rotate_left
                                              · simp only [Act.put, List.setIfInBounds_toArray, List.set_cons_zero, List.set_cons_succ, i64_w, i32_w]
                                                rfl
                                              refine done_ (done_of HT_.out (by kernel_rfl)) ?_
                                              try go_wp2
                                              go_ret2
                                              exact ⟨by first | rfl | (simp [errW_none, errW_some] <;> rfl) | (simp only [← hji14]; first | rfl | (simp [errW_none, errW_some] <;> rfl)) | (simp [*, errW_none, errW_some] <;> rfl) | (exfalso; simp_all; done), by repeat (first | (with_reducible first | exact HB.out | apply below_alloc | apply pw_below_drewN | apply below_drew1) | exact HB.out)⟩
                                            · rw [if_neg c44] at H
                                              have c44b0 : decide (t159 < (wrap64 (t164 + t165))) = false := decide_eq_false c44
                                              clear c44
                                              by_cases c46 : 0 ≤ t164
                                              · rw [if_pos c46] at H
                                                have c46b0 := eq_true c46
                                                have c46b1 : decide (0 ≤ t164) = true := decide_eq_true c46
                                                clear c46
                                                by_cases c47 : t164 ≤ (x7_2.length : Int)
                                                · rw [if_pos c47] at H
                                                  have c47b0 := eq_true c47
                                                  have c47b1 : decide (t164 ≤ (x7_2.length : Int)) = true := decide_eq_true c47
                                                  clear c47
                                                  obtain ⟨y166, hy166⟩ : ∃ y_ : List Int, y_ = (x7_2.drop (t164 : Int).toNat) := ⟨_, rfl⟩
                                                  replace H : (if 0 ≤ t165 then (if t165 ≤ ((x1_2.extract 5 x1_2.size).size : Int) then (impl_Applied.l0 k2 ((x1_2.extract 5 x1_2.size).extract (t165 : Int).toNat (x1_2.extract 5 x1_2.size).size) t159 (cpy x7_2 (t164 : Int).toNat (x7_2.length - (t164 : Int).toNat) (bytesOf ((x1_2.extract 5 x1_2.size).extract 0 (t165 : Int).toNat))) (wrap64 (t164 + t165))) else (none)) else (none)) = some (r1, r2) := by first | (rw [hy166]; with_reducible exact H) | (have H2_ := (Option.bind_some _ _).symm.trans H; rw [hy166]; with_reducible exact H2_) | (have H2_ := (Option.bind_some _ _).symm.trans H; with_reducible exact H2_) | with_reducible exact H | (rw [hy166]; exact H) | exact H
                                                  have Ny166 := Aside0.mk hy166
                                                  clear hy166
                                                  by_cases c48 : 0 ≤ t165
                                                  · rw [if_pos c48] at H
                                                    have c48b0 := eq_true c48
                                                    have c48b1 : decide (0 ≤ t165) = true := decide_eq_true c48
                                                    clear c48
                                                    by_cases c49 : t165 ≤ ((x1_2.extract 5 x1_2.size).size : Int)
                                                    · rw [if_pos c49] at H
                                                      have c49b0 := eq_true c49
                                                      (try (have c49b0e := c49b0; simp only [ByteArray.size_append, ByteArray.size_extract, Nat.min_self, Nat.sub_zero] at c49b0e))
                                                      have c49b1 : decide (t165 ≤ ((x1_2.extract 5 x1_2.size).size : Int)) = true := decide_eq_true c49
                                                      (try (have c49b1e := c49b1; simp only [ByteArray.size_append, ByteArray.size_extract, Nat.min_self, Nat.sub_zero] at c49b1e))
                                                      clear c49
                                                      obtain ⟨y170, hy170⟩ : ∃ y_ : List Int, y_ = (cpy x7_2 (t164 : Int).toNat (x7_2.length - (t164 : Int).toNat) (bytesOf ((x1_2.extract 5 x1_2.size).extract 0 (t165 : Int).toNat))) := ⟨_, rfl⟩
                                                      replace H : (impl_Applied.l0 k2 ((x1_2.extract 5 x1_2.size).extract (t165 : Int).toNat (x1_2.extract 5 x1_2.size).size) t159 y170 (wrap64 (t164 + t165))) = some (r1, r2) := by first | (rw [hy170]; with_reducible exact H) | (have H2_ := (Option.bind_some _ _).symm.trans H; rw [hy170]; with_reducible exact H2_) | (have H2_ := (Option.bind_some _ _).symm.trans H; with_reducible exact H2_) | with_reducible exact H | (rw [hy170]; exact H) | exact H
                                                      have Ny170 := Aside0.mk hy170
                                                      clear hy170
                                                      have c50b0 := eq_true (of_decide_eq_true (by first | (with_reducible assumption) | assumption) : 0 ≤ t165)
                                                      have c51b0 := eq_true (of_decide_eq_true (by first | (with_reducible assumption) | assumption) : t165 ≤ ((x1_2.extract 5 x1_2.size).size : Int))
                                                      (try (have c51b0e := c51b0; simp only [ByteArray.size_append, ByteArray.size_extract, Nat.min_self, Nat.sub_zero] at c51b0e))
                                                      have H' := Aside0.mk H
                                                      clear H
                                                      try go_wp2
                                                      have n0_ := Aside0.mk (Kd.R_drew HO_7.out)
                                                      have n1_ := Aside0.mk (below_drew1 HB.out)
                                                      clear HO_7
                                                      clear HB
                                                      have HO_7 := n0_
                                                      have HB := n1_
                                                      clear n0_ n1_
                                                      refine start_ (n := 8) (S := fun w' => True) (ds := []) #[false, false, false, false, false, false, false, false] (by kernel_rfl) rfl rfl trivial (fun hHeld => ?_); refine with_tabW impl_Applied.tab13 impl_Applied.bits13 (fun HT_ HW_ => ?_)
                                                      generalize wr.drew = w52 at HO_7 HB hHeld ⊢
                                                      refine pure_ (i := 0) (N := some 59) (v := ?_) (a' := ?_) #[true, false, false, false, false, false, false, false] rfl rfl (any_of HT_.out (by kernel_rfl)) (fun _ _ _ h => h) (Or.inl ⟨by rfl, ?_⟩) ?_ ?_
                                                      rotate_left
                                                      · intro w'
                                                        go_simp
                                                        with_reducible rfl
                                                      rotate_left
                                                      · simp only [Act.put, List.setIfInBounds_toArray, List.set_cons_zero, List.set_cons_succ, i64_w, i32_w]
                                                        rfl
                                                      refine pure_ (i := 1) (N := some 60) (v := ?_) (a' := ?_) #[true, true, false, false, false, false, false, false] rfl rfl (any_of HT_.out (by kernel_rfl)) (fun _ _ _ h => h) (Or.inl ⟨by rfl, ?_⟩) ?_ ?_
                                                      rotate_left
                                                      · intro w'
                                                        go_simp
                                                        with_reducible rfl
                                                      rotate_left
                                                      · simp only [Act.put, List.setIfInBounds_toArray, List.set_cons_zero, List.set_cons_succ, i64_w, i32_w]
                                                        rfl
                                                      refine pure_ (i := 3) (N := some 62) (v := ?_) (a' := ?_) #[true, true, false, true, false, false, false, false] rfl rfl (any_of HT_.out (by kernel_rfl)) (fun _ _ _ h => h) (Or.inl ⟨by rfl, ?_⟩) ?_ ?_
                                                      rotate_left
                                                      · intro w'
                                                        go_simp
                                                        with_reducible rfl
                                                      rotate_left
                                                      · simp only [Act.put, List.setIfInBounds_toArray, List.set_cons_zero, List.set_cons_succ, i64_w, i32_w]
                                                        rfl
                                                      refine pure_ (i := 4) (N := some 63) (v := ?_) (a' := ?_) #[true, true, false, true, true, false, false, false] rfl rfl (any_of HT_.out (by kernel_rfl)) (fun _ _ _ h => h) (Or.inl ⟨by rfl, ?_⟩) ?_ ?_
                                                      rotate_left
                                                      · intro w'
                                                        go_simp
                                                        with_reducible rfl
                                                      rotate_left
                                                      · simp only [Act.put, List.setIfInBounds_toArray, List.set_cons_zero, List.set_cons_succ, i64_w, i32_w]
                                                        rfl
                                                      refine one_ (i := 2) (N := some 61) #[true, true, true, true, true, false, false, false] rfl rfl (one_of HT_.out (by kernel_rfl)) (by decide) (fun K hK => ?_)
                                                      refine goes_ Try.func40 (by kernel_rfl) rfl #[.string (x1_2.extract 0 3)] (by rfl) rfl rfl (by (try simp only [List.map_toArray, List.map_cons, List.map_nil]); first | done | rfl | (simp only [List.length_drop, List.length_take]; rfl)) ?_
                                                      with_reducible refine (impl_bigOf.calls k2 (x1_2.extract 0 3) t164 _ A33.out).mono ?_
                                                      rintro e w' ⟨rfl, ⟨nd, rfl⟩⟩
                                                      refine ⟨_, rfl, ?_⟩
                                                      refine hK.out _ _ trivial (fun hHeld => ?_)
                                                      clear hK K
                                                      refine norm_ (a' := ?_) ?_ ?_
                                                      rotate_left
                                                      · show Act.put _ (some 61) _ = _
                                                        simp only [Act.put, List.setIfInBounds_toArray, List.set_cons_zero, List.set_cons_succ, i64_w, i32_w]
                                                        rfl
                                                      refine one_ (i := 5) (N := some 64) #[true, true, true, true, true, true, false, false] rfl rfl (one_of HT_.out (by kernel_rfl)) (by decide) (fun K hK => ?_)
                                                      refine goes_ Try.func40 (by kernel_rfl) rfl #[.string (x1_2.extract 3 5)] (by rfl) rfl rfl (by (try simp only [List.map_toArray, List.map_cons, List.map_nil]); first | done | rfl | (simp only [List.length_drop, List.length_take]; rfl)) ?_
                                                      with_reducible refine (impl_bigOf.calls k2 (x1_2.extract 3 5) t165 _ A36.out).mono ?_
                                                      rintro e w' ⟨rfl, ⟨nd, rfl⟩⟩
                                                      refine ⟨_, rfl, ?_⟩
                                                      refine hK.out _ _ trivial (fun hHeld => ?_)
                                                      clear hK K
                                                      refine norm_ (a' := ?_) ?_ ?_
                                                      rotate_left
                                                      · show Act.put _ (some 64) _ = _
                                                        simp only [Act.put, List.setIfInBounds_toArray, List.set_cons_zero, List.set_cons_succ, i64_w, i32_w]
                                                        rfl
                                                      refine pure_ (i := 6) (N := some 9) (v := ?_) (a' := ?_) #[true, true, true, true, true, true, true, false] rfl rfl (any_of HT_.out (by kernel_rfl)) (fun _ _ _ h => h) (Or.inl ⟨by rfl, ?_⟩) ?_ ?_
                                                      rotate_left
                                                      · intro w'
                                                        go_simp
                                                        with_reducible rfl
                                                      rotate_left
                                                      · simp only [Act.put, List.setIfInBounds_toArray, List.set_cons_zero, List.set_cons_succ, i64_w, i32_w]
                                                        rfl
                                                      refine pure_ (i := 7) (N := some 10) (v := ?_) (a' := ?_) #[true, true, true, true, true, true, true, true] rfl rfl (any_of HT_.out (by kernel_rfl)) (fun _ _ _ h => h) (Or.inl ⟨by rfl, ?_⟩) ?_ ?_
                                                      rotate_left
                                                      · intro w'
                                                        go_simp
                                                        with_reducible rfl
                                                      rotate_left
                                                      · simp only [Act.put, List.setIfInBounds_toArray, List.set_cons_zero, List.set_cons_succ, i64_w, i32_w]
                                                        rfl
                                                      refine done_ (done_of HT_.out (by kernel_rfl)) ?_
                                                      try go_wp2
                                                      (try (rw [drewN_self w52]; generalize hq_ : World.drewN w52 _ = w52; have n0_ : Aside0 (Kd.R (Kd.int .u8) 5 w52 w.heap.size (fun _ => True) (.slice Ao27 x7_2.length co27) x7_2) := ⟨by rw [← hq_]; exact (by (with_reducible repeat (first | apply Kd.R_alloc | apply Kd.R_drewN | apply Kd.R_drew)); exact HO_7.out)⟩; have n1_ : Aside0 (Below w.heap.size w w52) := ⟨by rw [← hq_]; exact (by repeat (first | (with_reducible first | exact HB.out | apply below_alloc | apply pw_below_drewN | apply below_drew1) | exact HB.out))⟩; clear HO_7 HB hq_; have HO_7 := n0_; have HB := n1_; clear n0_ n1_))
                                                      have n0_ := Aside0.mk (Kd.R_drew HO_7.out)
                                                      have n1_ := Aside0.mk (below_drew1 HB.out)
                                                      clear HO_7
                                                      clear HB
                                                      have HO_7 := n0_
                                                      have HB := n1_
                                                      clear n0_ n1_
                                                      have q54 : (t164 : Int) ≤ ((x7_2.length : Int) : Int) := of_decide_eq_true (by first | (with_reducible assumption) | assumption)
                                                      obtain ⟨i054, hi054, _, hsz54, _⟩ := info_parts info5
                                                      have hroom54 : x7_2.length ≤ co27 := (Kd.R_reads' HO_7.out).2.1
                                                      have hC54 : Kd.C (Kd.int .u8) _ Ao27 x7_2.length x7_2 := (Kd.R_reads' HO_7.out).2.2
                                                      have q054 : (0 : Int) ≤ (t164 : Int) := of_decide_eq_true (by first | (with_reducible assumption) | assumption)
                                                      have hcut54 := cut_from (P := Try.prog) 25 5 .i64 Try.underlying25 hi054 1 hsz54 Ao27 x7_2.length co27 t164 q054 q54
                                                      have hr54 := Kd.C_drop (m := (t164 : Int).toNat) (c := co27) hC54 (by omega) hroom54
                                                      obtain ⟨A54, hA54⟩ : ∃ A1, A1 = (if co27 = (t164 : Int).toNat then Ao27 else (Ao27 : Option Addr).map (·.add ((t164 : Int).toNat * 1))) := ⟨_, rfl⟩
                                                      obtain ⟨c54, hc54⟩ : ∃ c1, c1 = co27 - (t164 : Int).toNat := ⟨_, rfl⟩
                                                      have hy54 : y166.length = x7_2.length - (t164 : Int).toNat := (by rw [Ny166.out, List.length_drop] <;> omega)
                                                      rw [show (x7_2).drop (t164 : Int).toNat = y166 from Ny166.out.symm] at hr54
                                                      replace hr54 : Kd.C (Kd.int .u8) _ A54 y166.length y166 := (by rw [hA54]; exact hr54)
                                                      rw [← hy54, ← hA54, ← hc54] at hcut54
                                                      have HR169 := Aside0.mk hr54
                                                      have HC169 := Aside0.mk (show y166.length ≤ c54 from by rw [hy54, hc54]; exact Nat.sub_le_sub_right hroom54 _)
                                                      clear hr54 hC54 hroom54 hi054 hsz54 hc54
                                                      have KY54 := Aside0.mk hy54
                                                      have KA54 := Aside0.mk hA54
                                                      clear hy54 hA54
                                                      have KL54 := Aside0.mk (show (t164 : Int).toNat ≤ x7_2.length from by omega)
                                                      replace q54 := eq_true q54
                                                      refine start_ (n := 7) (S := fun w' => True) (ds := []) #[false, false, false, false, false, false, false] (by kernel_rfl) rfl rfl trivial (fun hHeld => ?_)
                                                      generalize w52.drew = w53 at HO_7 HB HR169 hHeld ⊢
                                                      refine pure_ (i := 0) (N := some 87) (v := ?_) (a' := ?_) #[true, false, false, false, false, false, false] rfl rfl (by kernel_rfl) (fun _ _ _ h => h) (Or.inl ⟨by rfl, ?_⟩) ?_ ?_
                                                      rotate_left
                                                      · intro w'
                                                        go_simp
                                                        with_reducible rfl
                                                      rotate_left
                                                      · simp only [Act.put, List.setIfInBounds_toArray, List.set_cons_zero, List.set_cons_succ, i64_w, i32_w]
                                                        rfl
                                                      refine pure_ (i := 1) (N := some 88) (v := ?_) (a' := ?_) #[true, true, false, false, false, false, false] rfl rfl (by kernel_rfl) (fun _ _ _ h => h) (Or.inl ⟨by rfl, ?_⟩) ?_ ?_
                                                      rotate_left
                                                      · intro w'
                                                        go_simp
                                                        with_reducible rfl
                                                      rotate_left
                                                      · simp only [Act.put, List.setIfInBounds_toArray, List.set_cons_zero, List.set_cons_succ, i64_w, i32_w]
                                                        rfl
                                                      refine pure_ (i := 2) (N := some 89) (v := ?_) (a' := ?_) #[true, true, true, false, false, false, false] rfl rfl (by kernel_rfl) (fun _ _ _ h => h) (Or.inl ⟨by rfl, ?_⟩) ?_ ?_
                                                      rotate_left
                                                      · intro w'
                                                        go_simp
                                                        with_reducible rfl
                                                      rotate_left
                                                      · simp only [Act.put, List.setIfInBounds_toArray, List.set_cons_zero, List.set_cons_succ, i64_w, i32_w]
                                                        rfl
                                                      refine pure_ (i := 3) (N := some 90) (v := ?_) (a' := ?_) #[true, true, true, true, false, false, false] rfl rfl (by kernel_rfl) (fun _ _ _ h => h) (Or.inl ⟨by rfl, ?_⟩) ?_ ?_
                                                      rotate_left
                                                      · intro w'
                                                        go_simp
                                                        with_reducible rfl
                                                      rotate_left
                                                      · simp only [Act.put, List.setIfInBounds_toArray, List.set_cons_zero, List.set_cons_succ, i64_w, i32_w]
                                                        rfl
                                                      refine pure_ (i := 4) (N := some 91) (v := ?_) (a' := ?_) #[true, true, true, true, true, false, false] rfl rfl (by kernel_rfl) (fun _ _ _ h => h) (Or.inl ⟨by rfl, ?_⟩) ?_ ?_
                                                      rotate_left
                                                      · intro w'
                                                        go_simp
                                                        with_reducible rfl
                                                      rotate_left
                                                      · simp only [Act.put, List.setIfInBounds_toArray, List.set_cons_zero, List.set_cons_succ, i64_w, i32_w]
                                                        rfl
                                                      refine pure_ (i := 5) (N := some 92) (v := ?_) (a' := ?_) #[true, true, true, true, true, true, false] rfl rfl (by kernel_rfl) (fun _ _ _ h => h) (Or.inl ⟨by rfl, ?_⟩) ?_ ?_
                                                      rotate_left
                                                      · intro w'
                                                        go_simp
                                                        with_reducible rfl
                                                      rotate_left
                                                      · simp only [Act.put, List.setIfInBounds_toArray, List.set_cons_zero, List.set_cons_succ, i64_w, i32_w]
                                                        rfl
                                                      refine one_ (i := 6) (N := some 93) #[true, true, true, true, true, true, true] rfl rfl (by kernel_rfl) (by decide) (fun K hK => ?_)
                                                      have e_ := (Kd.R_reads' HO_7.out).1
                                                      have hy1_ := KY54.out
                                                      have b0_ : (0 : Int) ≤ (t164 : Int) := of_decide_eq_true (by first | (with_reducible assumption) | assumption)
                                                      have b2_ : (t164 : Int) ≤ ((x7_2.length : Int) : Int) := of_decide_eq_true (by first | (with_reducible assumption) | assumption)
                                                      have hm_ : y166.length = (x7_2.length - (t164 : Int).toNat) := (by omega)
                                                      have hv_ : cpy x7_2 (t164 : Int).toNat y166.length (bytesOf ((x1_2.extract 5 x1_2.size).extract 0 (t165 : Int).toNat)) = y170 := (by rw [Ny170.out]; first | done | rw [hm_])
                                                      refine R_copy_step (w0 := w) w.heap.size (by rfl) (.tmp 89) _ 25 _ 5 rfl Try.underlying25 (by kernel_rfl) (A0 := Ao27) (n := x7_2.length) (c := co27) (m := y166.length) (lo := (t164 : Int).toNat) rfl rfl ?hA (by (with_reducible repeat (first | apply Kd.R_alloc | apply Kd.R_drewN | apply Kd.R_drew)); exact HO_7.out) ?hl (by repeat (first | (with_reducible first | exact HB.out | apply below_alloc | apply pw_below_drewN | apply below_drew1) | exact HB.out)) (below_size (by repeat (first | (with_reducible first | exact HB.out | apply below_alloc | apply pw_below_drewN | apply below_drew1) | exact HB.out))) ?_
                                                      (case hA => exact .inr KA54.out)
                                                      (case hl => omega)
                                                      intro w55 ho hb hg
                                                      rw [hv_] at ho
                                                      clear e_ hm_ hv_ hy1_ b0_ b2_
                                                      have n0_ := Aside0.mk (ho)
                                                      have n1_ := Aside0.mk (hb)
                                                      clear HO_7
                                                      clear HB
                                                      have HO_7 := n0_
                                                      have HB := n1_
                                                      clear n0_ n1_
                                                      clear ho hb hg
                                                      refine hK.out _ _ trivial (fun hHeld => ?_)
                                                      clear hK K
                                                      refine norm_ (a' := ?_) ?_ ?_
                                                      rotate_left
                                                      · show Act.put _ (some 93) _ = _
                                                        simp only [Act.put, List.setIfInBounds_toArray, List.set_cons_zero, List.set_cons_succ, i64_w, i32_w]
                                                        rfl
                                                      refine done_ (by kernel_rfl) ?_
                                                      try go_wp2
                                                      (try simp only [← hl7_2])
                                                      go_roundg k2
                                                      case measure => have := HJ2.out; have := HK2.out; omega
                                                      case rel => exact ⟨((x1_2.extract 5 x1_2.size).extract (t165 : Int).toNat (x1_2.extract 5 x1_2.size).size), (y170), (wrap64 (t164 + t165)), (by first | rfl | (simp; done) | (simp [*]; done) | (simp; decide +kernel) | (simp [wrap64]; done) | (simp [bne]; done)), (by first | rfl | (simp; done) | (simp [*]; done) | (simp; decide +kernel) | (simp [wrap64]; done) | (simp [bne]; done)), (by first | with_reducible exact H' | (have H2_ := H'; simp only [← hji14] at H2_ ⊢; with_reducible exact H2_) | exact H'), ⟨by have := HJ2.out; have := HK2.out; omega⟩, ⟨by (try simp only [hl7_2]); (with_reducible repeat (first | apply Kd.R_alloc | apply Kd.R_drewN | apply Kd.R_drew)); exact HO_7.out⟩, ⟨by repeat (first | (with_reducible first | exact HB.out | apply below_alloc | apply pw_below_drewN | apply below_drew1) | exact HB.out)⟩⟩
                                                    · rw [if_neg c49] at H
                                                      exact absurd H (by simp)
                                                  · rw [if_neg c48] at H
                                                    exact absurd H (by simp)
                                                · rw [if_neg c47] at H
                                                  exact absurd H (by simp)
                                              · rw [if_neg c46] at H
                                                exact absurd H (by simp)
                                    · rw [if_neg c35] at H
                                      exact absurd H (by simp)
                                  · rw [if_neg c34] at H
                                    exact absurd H (by simp)
                                · rw [if_neg c32] at H
                                  exact absurd H (by simp)
                              · rw [if_neg c31] at H
                                exact absurd H (by simp)
                    · rw [if_neg c22] at H
                      exact absurd H (by simp)
                  · rw [if_neg c21] at H
                    exact absurd H (by simp)
                · rw [if_neg c20] at H
                  exact absurd H (by simp)
              · rw [if_neg c19] at H
                exact absurd H (by simp)
          · rw [if_neg c16] at H
            exact absurd H (by simp)
        · rw [if_neg c15] at H
          exact absurd H (by simp)

end Go.Proofs.Ytcohcndliaaacaa.QFnDiffs
