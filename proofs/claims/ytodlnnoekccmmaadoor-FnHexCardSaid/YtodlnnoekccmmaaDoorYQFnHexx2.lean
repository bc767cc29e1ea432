/- The machine's side of a law, written by a program of this session for this claim. -/
import Derived.Test.YtodlnnoekccmmaaDoorYQq
import Derived.Test.YtodlnnoekccmmaaDoorYQFnHexx0
import Derived.Test.YtodlnnoekccmmaaDoorYQFnHexx1
namespace Go.Proofs.YtodlnnoekccmmaaDoor.QFnHex
open Go.Proofs.YtodlnnoekccmmaaDoor.Qq
open Go.RowKit Go.Proofs.YtodlnnoekccmmaaDoor.LibX Go.Proofs.YtodlnnoekccmmaaDoor.LibE Go.Proofs.YtodlnnoekccmmaaDoorW.PrintWords Go.Proofs.YtodlnnoekccmmaaDoorW.PrintLast Go.Proofs.YtodlnnoekccmmaaDoorW.PrintMore
attribute [local go_sem] max2_int min2_int max_two min_two max_three min_three max_four min_four   -- for this text's walks alone
set_option maxHeartbeats 8000000
set_option maxRecDepth 100000
set_option linter.unusedVariables false
set_option linter.unusedSimpArgs false
mutual
def spec_HexOf.j0 : Nat → Int → Int → Bool → Option (ByteArray)
 | 0, _, _, _ => none
 | k + 1, x0, x1, x14 => if x14 = true then (some (⟨#[]⟩ : ByteArray)) else (spec_HexOf.l0 k x0 x1 (⟨#[]⟩ : ByteArray) 0)
def spec_HexOf.l0 : Nat → Int → Int → ByteArray → Int → Option (ByteArray)
 | 0, _, _, _, _ => none
 | k + 1, x0, x1, x5, x6 => if x6 < x1 then (if 0 ≤ (Int.tmod x0 16) then (if (Int.tmod x0 16) ≤ (wrap64 ((Int.tmod x0 16) + 1)) then (if (wrap64 ((Int.tmod x0 16) + 1)) ≤ 16 then (if ((⟨#[48, 49, 50, 51, 52, 53, 54, 55, 56, 57, 65, 66, 67, 68, 69, 70]⟩ : ByteArray).extract ((Int.tmod x0 16) : Int).toNat ((wrap64 ((Int.tmod x0 16) + 1)) : Int).toNat).size + x5.size ≤ 9223372036854775807 then (spec_HexOf.l0 k (wrap64 (Int.tdiv x0 16)) x1 (((⟨#[48, 49, 50, 51, 52, 53, 54, 55, 56, 57, 65, 66, 67, 68, 69, 70]⟩ : ByteArray).extract ((Int.tmod x0 16) : Int).toNat ((wrap64 ((Int.tmod x0 16) + 1)) : Int).toNat) ++ x5) (wrap64 (x6 + 1))) else (none)) else (none)) else (none)) else (none)) else (if x0 > 0 then (some (⟨#[]⟩ : ByteArray)) else (if 1 + x5.size ≤ 9223372036854775807 then (some ((⟨#[36]⟩ : ByteArray) ++ x5)) else (none)))
end
def spec_HexOf.f (k : Nat) (a0 : Int) (a1 : Int) : Option (ByteArray) := (spec_l1In.f a1 1 4).bind fun t147 => (if t147 = true then ((spec_l1In.f a0 0 65535).bind fun t148 => (spec_HexOf.j0 k a0 a1 (!t148))) else (spec_HexOf.j0 k a0 a1 true))
theorem spec_HexOf.mono_l : ∀ k, (∀ y0 y1 y2, LeO (spec_HexOf.j0 k y0 y1 y2) (spec_HexOf.j0 (k + 1) y0 y1 y2)) ∧ (∀ y0 y1 y2 y3, LeO (spec_HexOf.l0 k y0 y1 y2 y3) (spec_HexOf.l0 (k + 1) y0 y1 y2 y3))
 | 0 => ⟨fun _ _ _ r h => by simp [spec_HexOf.j0] at h, fun _ _ _ _ r h => by simp [spec_HexOf.l0] at h⟩
 | k + 1 => by
  obtain ⟨ih0, ih1⟩ := spec_HexOf.mono_l k
  refine ⟨?_, ?_⟩
  ·intro y0 y1 y2
   unfold spec_HexOf.j0
   repeat' first
   | (with_reducible first | exact ih0 _ _ _ | exact ih1 _ _ _ _ | exact LeO.refl _ | exact LeO.none _ | refine LeO.ite ?_ ?_ | refine LeO.bind ?_ (fun _ => ?_))
   | exact ih0 _ _ _
   | exact ih1 _ _ _ _
   | exact LeO.none _
   | refine LeO.ite ?_ ?_
   | refine LeO.bind ?_ (fun _ => ?_)
  ·intro y0 y1 y2 y3
   unfold spec_HexOf.l0
   repeat' first
   | (with_reducible first | exact ih0 _ _ _ | exact ih1 _ _ _ _ | exact LeO.refl _ | exact LeO.none _ | refine LeO.ite ?_ ?_ | refine LeO.bind ?_ (fun _ => ?_))
   | exact ih0 _ _ _
   | exact ih1 _ _ _ _
   | exact LeO.none _
   | refine LeO.ite ?_ ?_
   | refine LeO.bind ?_ (fun _ => ?_)
theorem spec_HexOf.mono : ∀ a0 a1 k, LeO (spec_HexOf.f k a0 a1) (spec_HexOf.f (k + 1) a0 a1) := by
 intro a0 a1 k
 obtain ⟨ih0, ih1⟩ := spec_HexOf.mono_l k
 unfold spec_HexOf.f
 repeat' first
   | (with_reducible first | exact ih0 _ _ _ | exact ih1 _ _ _ _ | exact LeO.refl _ | exact LeO.none _ | refine LeO.ite ?_ ?_ | refine LeO.bind ?_ (fun _ => ?_))
   | exact ih0 _ _ _
   | exact ih1 _ _ _ _
   | exact LeO.none _
   | refine LeO.ite ?_ ?_
   | refine LeO.bind ?_ (fun _ => ?_)
theorem spec_HexOf.calls (k : Nat) (a0 : Int) (a1 : Int) (r : ByteArray) (w : World) (h : spec_HexOf.f k a0 a1 = some r) :
  Calls Tryd.prog 8 #[.int .i64 a0, .int .i64 a1] w fun e w' => e = .returned (.string r) ∧ Drawn0 w w' := by
 have H : ((spec_l1In.f a1 1 4).bind fun t147 => (if t147 = true then ((spec_l1In.f a0 0 65535).bind fun t148 => (spec_HexOf.j0 k a0 a1 (!t148))) else (spec_HexOf.j0 k a0 a1 true))) = some r := h
 clear h
 have HC3 := Aside0.mk H
 clear H
 go_enter Tryd.func8, Tryd.ntmps8
 go_upto_region 1 with (fail)
 go_cut [14] (fun v14 wc => ∃ (kq : Nat) (x14_2 : Bool), v14 = .bool x14_2 ∧ Aside0 (spec_HexOf.j0 kq a0 a1 x14_2 = some r) ∧ Aside0 (kq ≤ k) ∧ Drawn0 w wc)
 case first =>
  have H := HC3.out
  clear HC3
  replace H := Option.bind_eq_some_iff.mp H
  obtain ⟨t147, A40, H⟩ := H
  have A4 := Aside0.mk A40
  clear A40
  by_cases c5 : t147 = true
  ·subst c5
   replace H : ((spec_l1In.f a0 0 65535).bind fun t148 => (spec_HexOf.j0 k a0 a1 (!t148))) = some r := by rw [if_pos rfl] at H; exact H
   replace H := Option.bind_eq_some_iff.mp H
   obtain ⟨t148, A60, H⟩ := H
   have A6 := Aside0.mk A60
   clear A60
   have H' := Aside0.mk H
   clear H
   go_wp2_with (first | ((with_reducible refine gate_callee (f := 20) rfl ?_); refine goesL_ (some 8) rfl rfl Tryd.func20 (by kernel_rfl) rfl #[.int .i64 a1, .int .i64 1, .int .i64 4] rfl q6_ ?_; (with_reducible refine (spec_l1In.calls a1 1 4 true _ A4.out).mono ?_); rintro e w' ⟨rfl, ⟨nd, rfl⟩⟩; refine ⟨_, rfl, ?_⟩) | (go_at_call 20; (with_reducible refine (spec_l1In.calls a0 0 65535 t148 _ A6.out).mono ?_); rintro e w' ⟨rfl, ⟨nd, rfl⟩⟩))
   go_meet
   case rel => exact ⟨_, (!t148), q9_, H', ⟨q12_⟩, q10_⟩
  ·replace c5 := Bool.eq_false_iff.mpr c5
   subst c5
   replace H : (spec_HexOf.j0 k a0 a1 true) = some r := by rw [if_neg (show ¬ (false = true) by decide)] at H; exact H
   have H' := Aside0.mk H
   clear H
   go_wp2_with (first | ((with_reducible refine gate_callee (f := 20) rfl ?_); refine goesL_ (some 8) rfl rfl Tryd.func20 (by kernel_rfl) rfl #[.int .i64 a1, .int .i64 1, .int .i64 4] rfl q6_ ?_; (with_reducible refine (spec_l1In.calls a1 1 4 false _ A4.out).mono ?_); rintro e w' ⟨rfl, ⟨nd, rfl⟩⟩; refine ⟨_, rfl, ?_⟩))
   go_meet
   case rel => exact ⟨_, (true), q9_, H', ⟨q12_⟩, q10_⟩
 case rest =>
  clear HC3
  try clear c2
  try clear p2
  try clear c5
  try clear p6
  obtain ⟨kq, x14_2, rfl, HA, HJ2, ⟨mc2, rfl⟩⟩ := hcut
  cases kq with
  | zero => exact absurd HA.out (by simp [spec_HexOf.j0])
  | succ kj2 =>
   have H := HA.out
   clear HA
   simp only [spec_HexOf.j0] at H
   by_cases c7 : x14_2 = true
   ·subst c7
    replace H : (some (⟨#[]⟩ : ByteArray)) = some r := by rw [if_pos rfl] at H; exact H
    obtain rfl := Option.some.inj H
    go_wp2
    go_ret
    exact ⟨q9_, q10_⟩
   ·replace c7 := Bool.eq_false_iff.mpr c7
    subst c7
    replace H : (spec_HexOf.l0 kj2 a0 a1 (⟨#[]⟩ : ByteArray) 0) = some r := by rw [if_neg (show ¬ (false = true) by decide)] at H; exact H
    have H' := Aside0.mk H
    clear H
    go_wp2
    go_loopg [0, 5, 6] kj2 (fun kq v0 v5 v6 w' => ∃ (x0_2 : Int) (x5_2 : ByteArray) (x6_2 : Int), v0 = .int .i64 x0_2 ∧ v5 = .string x5_2 ∧ v6 = .int .i64 x6_2 ∧ Aside0 (spec_HexOf.l0 kq x0_2 a1 x5_2 x6_2 = some r) ∧ Aside0 (kq ≤ kj2) ∧ Drawn0 w w')
    case atStart => exact ⟨(a0), ((⟨#[]⟩ : ByteArray)), (0), q9_, q9_, q9_, H', ⟨Nat.le_refl _⟩, q10_⟩
    case round =>
     clear H'
     try clear c2
     try clear p2 p2
     try clear c5
     try clear p6 p6
     try clear c7
     obtain ⟨x0_2, x5_2, x6_2, rfl, rfl, rfl, HA, HK2, ⟨m2, rfl⟩⟩ := hrel
     cases gk with
     | zero => exact absurd HA.out (by simp [spec_HexOf.l0])
     | succ k2 =>
      have H := HA.out
      clear HA
      simp only [spec_HexOf.l0] at H
      by_cases c8 : x6_2 < a1
      ·rw [if_pos c8] at H
       have c8b0 : decide (x6_2 < a1) = true := decide_eq_true c8
       clear c8
       obtain ⟨ji9, hji9⟩ : ∃ j_ : Int, (Int.tmod x0_2 16) = j_ := ⟨_, rfl⟩
       replace H : (if 0 ≤ (ji9) then (if (ji9) ≤ (wrap64 ((ji9) + 1)) then (if (wrap64 ((ji9) + 1)) ≤ 16 then (if ((⟨#[48, 49, 50, 51, 52, 53, 54, 55, 56, 57, 65, 66, 67, 68, 69, 70]⟩ : ByteArray).extract ((ji9) : Int).toNat ((wrap64 ((ji9) + 1)) : Int).toNat).size + x5_2.size ≤ 9223372036854775807 then (spec_HexOf.l0 k2 (wrap64 (Int.tdiv x0_2 16)) a1 (((⟨#[48, 49, 50, 51, 52, 53, 54, 55, 56, 57, 65, 66, 67, 68, 69, 70]⟩ : ByteArray).extract ((ji9) : Int).toNat ((wrap64 ((ji9) + 1)) : Int).toNat) ++ x5_2) (wrap64 (x6_2 + 1))) else (none)) else (none)) else (none)) else (none)) = some r := by first | (rw [hji9] at H; exact H) | (simp only [hji9] at H ⊢; exact H)
       by_cases c10 : 0 ≤ (ji9)
       ·rw [if_pos c10] at H
        have c10b0 := eq_true c10
        have c10b1 : decide (0 ≤ (ji9)) = true := decide_eq_true c10
        clear c10
        by_cases c11 : (ji9) ≤ (wrap64 ((ji9) + 1))
        ·rw [if_pos c11] at H
         have c11b0 := eq_true c11
         have c11b1 : decide ((ji9) ≤ (wrap64 ((ji9) + 1))) = true := decide_eq_true c11
         by_cases c12 : (wrap64 ((ji9) + 1)) ≤ 16
         ·rw [if_pos c12] at H
          have c12b0 := eq_true c12
          have c12b1 : decide ((wrap64 ((ji9) + 1)) ≤ 16) = true := decide_eq_true c12
          by_cases c13 : ((⟨#[48, 49, 50, 51, 52, 53, 54, 55, 56, 57, 65, 66, 67, 68, 69, 70]⟩ : ByteArray).extract ((ji9) : Int).toNat ((wrap64 ((ji9) + 1)) : Int).toNat).size + x5_2.size ≤ 9223372036854775807
          ·rw [if_pos c13] at H
           have c13b0 := eq_true c13
           (try (have c13b0e := c13b0; simp only [ByteArray.size_append, ByteArray.size_extract, Nat.min_self, Nat.sub_zero, show (⟨#[48, 49, 50, 51, 52, 53, 54, 55, 56, 57, 65, 66, 67, 68, 69, 70]⟩ : ByteArray).size = 16 from rfl] at c13b0e))
           have c13b1 : decide (((⟨#[48, 49, 50, 51, 52, 53, 54, 55, 56, 57, 65, 66, 67, 68, 69, 70]⟩ : ByteArray).extract ((ji9) : Int).toNat ((wrap64 ((ji9) + 1)) : Int).toNat).size + x5_2.size ≤ 9223372036854775807) = true := decide_eq_true c13
           (try (have c13b1e := c13b1; simp only [ByteArray.size_append, ByteArray.size_extract, Nat.min_self, Nat.sub_zero, show (⟨#[48, 49, 50, 51, 52, 53, 54, 55, 56, 57, 65, 66, 67, 68, 69, 70]⟩ : ByteArray).size = 16 from rfl] at c13b1e))
           try have c13b2 : (9223372036854775807 < ((⟨#[48, 49, 50, 51, 52, 53, 54, 55, 56, 57, 65, 66, 67, 68, 69, 70]⟩ : ByteArray).extract ((ji9) : Int).toNat ((wrap64 ((ji9) + 1)) : Int).toNat).size + x5_2.size) = False := eq_false (Nat.not_lt.2 c13)
           (try (have c13b2e := c13b2; simp only [ByteArray.size_append, ByteArray.size_extract, Nat.min_self, Nat.sub_zero, show (⟨#[48, 49, 50, 51, 52, 53, 54, 55, 56, 57, 65, 66, 67, 68, 69, 70]⟩ : ByteArray).size = 16 from rfl] at c13b2e))
           (try (first | (have c13b2p := eq_true (of_decide_eq_true c13b2e)) | (have c13b2p := eq_false (of_decide_eq_false c13b2e))))
           have H' := Aside0.mk H
           clear H
           go_wp2
           go_roundg k2
           case measure => have := HJ2.out; have := HK2.out; omega
           case rel => exact ⟨(wrap64 (Int.tdiv x0_2 16)), (((⟨#[48, 49, 50, 51, 52, 53, 54, 55, 56, 57, 65, 66, 67, 68, 69, 70]⟩ : ByteArray).extract ((ji9) : Int).toNat ((wrap64 ((ji9) + 1)) : Int).toNat) ++ x5_2), (wrap64 (x6_2 + 1)), q9_, (by first | rfl | (simp; done) | (simp only [← hji9] <;> (first | rfl | simp)) | (simp [*]; done) | (simp; decide +kernel) | (simp [wrap64]; done) | (simp [bne]; done)), q9_, (by first | with_reducible exact H' | (have H2_ := H'; simp only [← hji9] at H2_ ⊢; with_reducible exact H2_) | exact H'), ⟨by have := HJ2.out; have := HK2.out; omega⟩, q10_⟩
          ·rw [if_neg c13] at H
           exact absurd H (by simp)
         ·rw [if_neg c12] at H
          exact absurd H (by simp)
        ·rw [if_neg c11] at H
         exact absurd H (by simp)
       ·rw [if_neg c10] at H
        exact absurd H (by simp)
      ·rw [if_neg c8] at H
       have c8b0 : decide (x6_2 < a1) = false := decide_eq_false c8
       clear c8
       by_cases c14 : x0_2 > 0
       ·rw [if_pos c14] at H
        have c14b0 : decide (0 < x0_2) = true := decide_eq_true c14
        clear c14
        obtain rfl := Option.some.inj H
        go_wp2
        go_ret
        exact ⟨q9_, q10_⟩
       ·rw [if_neg c14] at H
        have c14b0 : decide (0 < x0_2) = false := decide_eq_false c14
        clear c14
        by_cases c15 : 1 + x5_2.size ≤ 9223372036854775807
        ·rw [if_pos c15] at H
         have c15b0 := eq_true c15
         have c15b1 : decide (1 + x5_2.size ≤ 9223372036854775807) = true := decide_eq_true c15
         try have c15b2 : (9223372036854775807 < 1 + x5_2.size) = False := eq_false (Nat.not_lt.2 c15)
         obtain rfl := Option.some.inj H
         go_wp2
         go_ret
         exact ⟨q9_, q10_⟩
        ·rw [if_neg c15] at H
         exact absurd H (by simp)
def stringslite_HasPrefix.f (a0 : ByteArray) (a1 : ByteArray) : Option (Bool) := if (a0.size : Int) ≥ (a1.size : Int) then (if 0 ≤ (a1.size : Int) then (if (a1.size : Int) ≤ (a0.size : Int) then (some ((a0.extract 0 ((a1.size : Int) : Int).toNat).toList == a1.toList)) else (none)) else (none)) else (some false)
theorem stringslite_HasPrefix.calls (a0 : ByteArray) (a1 : ByteArray) (r : Bool) (w : World) (h : stringslite_HasPrefix.f a0 a1 = some r) :
  Calls Tryd.prog 35 #[.string a0, .string a1] w fun e w' => e = .returned (.bool r) ∧ Drawn0 w w' := by
 have H : (if (a0.size : Int) ≥ (a1.size : Int) then (if 0 ≤ (a1.size : Int) then (if (a1.size : Int) ≤ (a0.size : Int) then (some ((a0.extract 0 ((a1.size : Int) : Int).toNat).toList == a1.toList)) else (none)) else (none)) else (some false)) = some r := h
 clear h
 by_cases c3 : (a0.size : Int) ≥ (a1.size : Int)
 ·rw [if_pos c3] at H
  have c3b0 : decide ((a1.size : Int) ≤ (a0.size : Int)) = true := decide_eq_true c3
  have c3b1 : decide (a1.size ≤ a0.size) = true := decide_eq_true (Int.ofNat_le.mp c3)
  clear c3
  by_cases c4 : 0 ≤ (a1.size : Int)
  ·rw [if_pos c4] at H
   have c4b0 := eq_true c4
   have c4b1 : decide (0 ≤ (a1.size : Int)) = true := decide_eq_true c4
   clear c4
   by_cases c5 : (a1.size : Int) ≤ (a0.size : Int)
   ·rw [if_pos c5] at H
    have c5b0 := eq_true c5
    have c5b1 : decide ((a1.size : Int) ≤ (a0.size : Int)) = true := decide_eq_true c5
    clear c5
    obtain rfl := Option.some.inj H
    go_enter Tryd.func35, Tryd.ntmps35
    go_wp2
    go_ret
    exact ⟨q9_, q10_⟩
   ·rw [if_neg c5] at H
    exact absurd H (by simp)
  ·rw [if_neg c4] at H
   exact absurd H (by simp)
 ·rw [if_neg c3] at H
  have c3b0 : decide ((a1.size : Int) ≤ (a0.size : Int)) = false := decide_eq_false c3
  have c3b1 : decide (a1.size ≤ a0.size) = false := decide_eq_false (fun h => c3 (Int.ofNat_le.mpr h))
  clear c3
  obtain rfl := Option.some.inj H
  go_enter Tryd.func35, Tryd.ntmps35
  go_wp2
  go_ret
  exact ⟨q9_, q10_⟩
def strings_HasPrefix.f (a0 : ByteArray) (a1 : ByteArray) : Option (Bool) := (stringslite_HasPrefix.f a0 a1).bind fun t149 => (some t149)
theorem strings_HasPrefix.calls (a0 : ByteArray) (a1 : ByteArray) (r : Bool) (w : World) (h : strings_HasPrefix.f a0 a1 = some r) :
  Calls Tryd.prog 21 #[.string a0, .string a1] w fun e w' => e = .returned (.bool r) ∧ Drawn0 w w' := by
 have H : ((stringslite_HasPrefix.f a0 a1).bind fun t149 => (some t149)) = some r := h
 clear h
 replace H := Option.bind_eq_some_iff.mp H
 obtain ⟨t149, A30, H⟩ := H
 have A3 := Aside0.mk A30
 clear A30
 obtain rfl := Option.some.inj H
 go_enter Tryd.func21, Tryd.ntmps21
 go_wp2_with (first | ((with_reducible refine gate_callee (f := 35) rfl ?_); refine goesL_ (some 7) rfl rfl Tryd.func35 (by kernel_rfl) rfl #[.string a0, .string a1] rfl q6_ ?_; (with_reducible refine (stringslite_HasPrefix.calls a0 a1 t149 _ A3.out).mono ?_); rintro e w' ⟨rfl, ⟨nd, rfl⟩⟩; refine ⟨_, rfl, ?_⟩))
 go_ret
 exact ⟨q9_, q10_⟩
def impl_valueOf.l0 : Nat → ByteArray → ByteArray → Int → Int → Int → Option (Int × Bool)
 | 0, _, _, _, _, _ => none
 | k + 1, x0, x1, x6, x10, x11 => if x11 < x10 then (if 0 ≤ x11 then (if x11 < (x0.size : Int) then ((strings_IndexByte.f x1 (bt x0 x11)).bind fun t150 => (if t150 < 0 then (some (0, false)) else (if x6 > 65535 then (some (0, false)) else (impl_valueOf.l0 k x0 x1 (wrap64 ((wrap64 (x6 * (x1.size : Int))) + t150)) x10 (wrap64 (x11 + 1)))))) else (none)) else (none)) else (if x0.toList = ([] : List UInt8) then (some (x6, false)) else (some (x6, decide (x6 ≤ 65535))))
def impl_valueOf.f (k : Nat) (a0 : ByteArray) (a1 : ByteArray) : Option (Int × Bool) := impl_valueOf.l0 k a0 a1 0 (a0.size : Int) 0
theorem impl_valueOf.mono_l : ∀ k, (∀ y0 y1 y2 y3 y4, LeO (impl_valueOf.l0 k y0 y1 y2 y3 y4) (impl_valueOf.l0 (k + 1) y0 y1 y2 y3 y4))
 | 0 => fun _ _ _ _ _ r h => by simp [impl_valueOf.l0] at h
 | k + 1 => by
  have ih0 := impl_valueOf.mono_l k
  ·intro y0 y1 y2 y3 y4
   unfold impl_valueOf.l0
   repeat' first
   | (with_reducible first | exact ih0 _ _ _ _ _ | exact LeO.refl _ | exact LeO.none _ | refine LeO.ite ?_ ?_ | refine LeO.bind ?_ (fun _ => ?_))
   | exact ih0 _ _ _ _ _
   | exact LeO.none _
   | refine LeO.ite ?_ ?_
   | refine LeO.bind ?_ (fun _ => ?_)
theorem impl_valueOf.mono : ∀ a0 a1 k, LeO (impl_valueOf.f k a0 a1) (impl_valueOf.f (k + 1) a0 a1) := by
 intro a0 a1 k
 have ih0 := impl_valueOf.mono_l k
 unfold impl_valueOf.f
 repeat' first
   | (with_reducible first | exact ih0 _ _ _ _ _ | exact LeO.refl _ | exact LeO.none _ | refine LeO.ite ?_ ?_ | refine LeO.bind ?_ (fun _ => ?_))
   | exact ih0 _ _ _ _ _
   | exact LeO.none _
   | refine LeO.ite ?_ ?_
   | refine LeO.bind ?_ (fun _ => ?_)
theorem impl_valueOf.calls (k : Nat) (a0 : ByteArray) (a1 : ByteArray) (r1 : Int) (r2 : Bool) (w : World) (h : impl_valueOf.f k a0 a1 = some (r1, r2)) :
  Calls Tryd.prog 22 #[.string a0, .string a1] w fun e w' => e = .returned (.tuple #[.int .i64 r1, .bool r2]) ∧ Drawn0 w w' := by
 have H : (impl_valueOf.l0 k a0 a1 0 (a0.size : Int) 0) = some (r1, r2) := h
 clear h
 have H' := Aside0.mk H
 clear H
 go_enter Tryd.func22, Tryd.ntmps22
 go_wp2
 go_loopg [6, 11] k (fun kq v6 v11 w' => ∃ (x6_1 : Int) (x11_1 : Int), v6 = .int .i64 x6_1 ∧ v11 = .int .i64 x11_1 ∧ Aside0 (impl_valueOf.l0 kq a0 a1 x6_1 (a0.size : Int) x11_1 = some (r1, r2)) ∧ Aside0 (kq ≤ k) ∧ Drawn0 w w')
 case atStart => exact ⟨(0), (0), q9_, q9_, H', ⟨Nat.le_refl _⟩, q10_⟩
 case round =>
  clear H'
  try clear c2
  try clear p2
  obtain ⟨x6_1, x11_1, rfl, rfl, HA, HK1, ⟨m1, rfl⟩⟩ := hrel
  cases gk with
  | zero => exact absurd HA.out (by simp [impl_valueOf.l0])
  | succ k1 =>
   have H := HA.out
   clear HA
   simp only [impl_valueOf.l0] at H
   by_cases c3 : x11_1 < (a0.size : Int)
   ·rw [if_pos c3] at H
    have c3b0 : decide (x11_1 < (a0.size : Int)) = true := decide_eq_true c3
    clear c3
    by_cases c4 : 0 ≤ x11_1
    ·rw [if_pos c4] at H
     have c4b0 : decide (0 ≤ x11_1) = true := decide_eq_true c4
     clear c4
     by_cases c5 : x11_1 < (a0.size : Int)
     ·rw [if_pos c5] at H
      have c5b0 : decide (x11_1 < (a0.size : Int)) = true := decide_eq_true c5
      clear c5
      replace H := Option.bind_eq_some_iff.mp H
      obtain ⟨t150, A70, H⟩ := H
      have A7 := Aside0.mk A70
      clear A70
      by_cases c8 : t150 < 0
      ·rw [if_pos c8] at H
       have c8b0 : decide (t150 < 0) = true := decide_eq_true c8
       clear c8
       simp only [Option.some.injEq, Prod.mk.injEq] at H
       obtain ⟨rfl, rfl⟩ := H
       have p6 : 0 ≤ (x11_1 : Int) := of_decide_eq_true q11_
       have q6 : x11_1 < (a0.size : Int) := of_decide_eq_true q11_
       have hx6 := bt_at a0 x11_1
       replace p6 := eq_true p6
       replace q6 := eq_true q6
       go_wp2_with (first | ((with_reducible refine gate_callee (f := 36) rfl ?_); refine goesL_ (some 18) rfl rfl Tryd.func36 (by kernel_rfl) rfl #[.string a1, .int .u8 (bt a0 x11_1)] rfl q6_ ?_; (with_reducible refine (strings_IndexByte.calls a1 (bt a0 x11_1) t150 _ A7.out).mono ?_); rintro e w' ⟨rfl, ⟨nd, rfl⟩⟩; refine ⟨_, rfl, ?_⟩))
       go_ret2
       exact ⟨q9_, q10_⟩
      ·rw [if_neg c8] at H
       have c8b0 : decide (t150 < 0) = false := decide_eq_false c8
       clear c8
       by_cases c9 : x6_1 > 65535
       ·rw [if_pos c9] at H
        have c9b0 : decide (65535 < x6_1) = true := decide_eq_true c9
        clear c9
        simp only [Option.some.injEq, Prod.mk.injEq] at H
        obtain ⟨rfl, rfl⟩ := H
        have p6 : 0 ≤ (x11_1 : Int) := of_decide_eq_true q11_
        have q6 : x11_1 < (a0.size : Int) := of_decide_eq_true q11_
        have hx6 := bt_at a0 x11_1
        replace p6 := eq_true p6
        replace q6 := eq_true q6
        go_wp2_with (first | ((with_reducible refine gate_callee (f := 36) rfl ?_); refine goesL_ (some 18) rfl rfl Tryd.func36 (by kernel_rfl) rfl #[.string a1, .int .u8 (bt a0 x11_1)] rfl q6_ ?_; (with_reducible refine (strings_IndexByte.calls a1 (bt a0 x11_1) t150 _ A7.out).mono ?_); rintro e w' ⟨rfl, ⟨nd, rfl⟩⟩; refine ⟨_, rfl, ?_⟩))
        go_ret2
        exact ⟨q9_, q10_⟩
       ·rw [if_neg c9] at H
        have c9b0 : decide (65535 < x6_1) = false := decide_eq_false c9
        clear c9
        have H' := Aside0.mk H
        clear H
        have p6 : 0 ≤ (x11_1 : Int) := of_decide_eq_true q11_
        have q6 : x11_1 < (a0.size : Int) := of_decide_eq_true q11_
        have hx6 := bt_at a0 x11_1
        replace p6 := eq_true p6
        replace q6 := eq_true q6
        go_wp2_with (first | ((with_reducible refine gate_callee (f := 36) rfl ?_); refine goesL_ (some 18) rfl rfl Tryd.func36 (by kernel_rfl) rfl #[.string a1, .int .u8 (bt a0 x11_1)] rfl q6_ ?_; (with_reducible refine (strings_IndexByte.calls a1 (bt a0 x11_1) t150 _ A7.out).mono ?_); rintro e w' ⟨rfl, ⟨nd, rfl⟩⟩; refine ⟨_, rfl, ?_⟩))
        go_roundg k1
        case measure => have := HK1.out; omega
        case rel => exact ⟨(wrap64 ((wrap64 (x6_1 * (a1.size : Int))) + t150)), (wrap64 (x11_1 + 1)), q9_, q9_, H', ⟨by have := HK1.out; omega⟩, q10_⟩
     ·rw [if_neg c5] at H
      exact absurd H (by simp)
    ·rw [if_neg c4] at H
     exact absurd H (by simp)
   ·rw [if_neg c3] at H
    have c3b0 : decide (x11_1 < (a0.size : Int)) = false := decide_eq_false c3
    clear c3
    by_cases c10 : a0.toList = ([] : List UInt8)
    ·rw [if_pos c10] at H
     have c10b0 : (a0.toList == ([] : List UInt8)) = true := beq_iff_eq.mpr c10
     have c10b1 : (a0.toList != ([] : List UInt8)) = false := bne_eq_false_iff_eq.mpr c10
     clear c10
     simp only [Option.some.injEq, Prod.mk.injEq] at H
     obtain ⟨rfl, rfl⟩ := H
     go_wp2
     go_ret2
     exact ⟨q9_, q10_⟩
    ·rw [if_neg c10] at H
     have c10b0 : (a0.toList == ([] : List UInt8)) = false := beq_eq_false_iff_ne.mpr c10
     have c10b1 : (a0.toList != ([] : List UInt8)) = true := bne_iff_ne.mpr c10
     simp only [Option.some.injEq, Prod.mk.injEq] at H
     obtain ⟨rfl, rfl⟩ := H
     go_wp2
     go_ret2
     exact ⟨q9_, q10_⟩
def impl_ReadNum.j0 : Nat → Int → Bool → Option (Int × Bool)
 | 0, _, _ => none
 | k + 1, x4, x5 => if x5 = true then (some (x4, true)) else (some (0, false))
def impl_ReadNum.f (k : Nat) (a0 : ByteArray) : Option (Int × Bool) := if (a0.size : Int) > 18 then (impl_ReadNum.j0 k 0 false) else ((strings_HasPrefix.f a0 (⟨#[36]⟩ : ByteArray)).bind fun t151 => (if t151 = true then (if 1 ≤ (a0.size : Int) then ((impl_valueOf.f k (a0.extract 1 a0.size) (⟨#[48, 49, 50, 51, 52, 53, 54, 55, 56, 57, 65, 66, 67, 68, 69, 70]⟩ : ByteArray)).bind fun bt152 => (impl_ReadNum.j0 k bt152.1 bt152.2)) else (none)) else ((strings_HasPrefix.f a0 (⟨#[37]⟩ : ByteArray)).bind fun t154 => (if t154 = true then (if 1 ≤ (a0.size : Int) then ((impl_valueOf.f k (a0.extract 1 a0.size) (⟨#[48, 49]⟩ : ByteArray)).bind fun bt155 => (impl_ReadNum.j0 k bt155.1 bt155.2)) else (none)) else ((impl_valueOf.f k a0 (⟨#[48, 49, 50, 51, 52, 53, 54, 55, 56, 57]⟩ : ByteArray)).bind fun bt157 => (impl_ReadNum.j0 k bt157.1 bt157.2))))))
theorem impl_ReadNum.mono_l : ∀ k, (∀ y0 y1, LeO (impl_ReadNum.j0 k y0 y1) (impl_ReadNum.j0 (k + 1) y0 y1))
 | 0 => fun _ _ r h => by simp [impl_ReadNum.j0] at h
 | k + 1 => by
  have ih0 := impl_ReadNum.mono_l k
  ·intro y0 y1
   unfold impl_ReadNum.j0
   repeat' first
   | (with_reducible first | exact ih0 _ _ | exact impl_valueOf.mono _ _ _ | exact LeO.refl _ | exact LeO.none _ | refine LeO.ite ?_ ?_ | refine LeO.bind ?_ (fun _ => ?_))
   | exact ih0 _ _
   | exact impl_valueOf.mono _ _ _
   | exact LeO.none _
   | refine LeO.ite ?_ ?_
   | refine LeO.bind ?_ (fun _ => ?_)
theorem impl_ReadNum.mono : ∀ a0 k, LeO (impl_ReadNum.f k a0) (impl_ReadNum.f (k + 1) a0) := by
 intro a0 k
 have ih0 := impl_ReadNum.mono_l k
 unfold impl_ReadNum.f
 repeat' first
   | (with_reducible first | exact ih0 _ _ | exact impl_valueOf.mono _ _ _ | exact LeO.refl _ | exact LeO.none _ | refine LeO.ite ?_ ?_ | refine LeO.bind ?_ (fun _ => ?_))
   | exact ih0 _ _
   | exact impl_valueOf.mono _ _ _
   | exact LeO.none _
   | refine LeO.ite ?_ ?_
   | refine LeO.bind ?_ (fun _ => ?_)
theorem impl_ReadNum.calls (k : Nat) (a0 : ByteArray) (r1 : Int) (r2 : Bool) (w : World) (h : impl_ReadNum.f k a0 = some (r1, r2)) :
  Calls Tryd.prog 9 #[.string a0] w fun e w' => e = .returned (.tuple #[.int .i64 r1, .bool r2]) ∧ Drawn0 w w' := by
 have H : (if (a0.size : Int) > 18 then (impl_ReadNum.j0 k 0 false) else ((strings_HasPrefix.f a0 (⟨#[36]⟩ : ByteArray)).bind fun t151 => (if t151 = true then (if 1 ≤ (a0.size : Int) then ((impl_valueOf.f k (a0.extract 1 a0.size) (⟨#[48, 49, 50, 51, 52, 53, 54, 55, 56, 57, 65, 66, 67, 68, 69, 70]⟩ : ByteArray)).bind fun bt152 => (impl_ReadNum.j0 k bt152.1 bt152.2)) else (none)) else ((strings_HasPrefix.f a0 (⟨#[37]⟩ : ByteArray)).bind fun t154 => (if t154 = true then (if 1 ≤ (a0.size : Int) then ((impl_valueOf.f k (a0.extract 1 a0.size) (⟨#[48, 49]⟩ : ByteArray)).bind fun bt155 => (impl_ReadNum.j0 k bt155.1 bt155.2)) else (none)) else ((impl_valueOf.f k a0 (⟨#[48, 49, 50, 51, 52, 53, 54, 55, 56, 57]⟩ : ByteArray)).bind fun bt157 => (impl_ReadNum.j0 k bt157.1 bt157.2))))))) = some (r1, r2) := h
 clear h
 have HC2 := Aside0.mk H
 clear H
 go_enter Tryd.func9, Tryd.ntmps9
 go_upto_block 0 with (fail)
 go_cut [4, 5] (fun v4 v5 wc => ∃ (kq : Nat) (x4_1 : Int) (x5_1 : Bool), v4 = .int .i64 x4_1 ∧ v5 = .bool x5_1 ∧ Aside0 (impl_ReadNum.j0 kq x4_1 x5_1 = some (r1, r2)) ∧ Aside0 (kq ≤ k) ∧ Drawn0 w wc)
 case first =>
  have H := HC2.out
  clear HC2
  by_cases c3 : (a0.size : Int) > 18
  ·rw [if_pos c3] at H
   have c3b0 : decide (18 < (a0.size : Int)) = true := decide_eq_true c3
   have c3b1 : decide (18 < a0.size) = true := decide_eq_true (by omega)
   clear c3
   (first | rw [c3b0] | (simp only [i64_w, i32_w]; rw [c3b0]) | skip)
   have H' := Aside0.mk H
   clear H
   go_wp2
   go_meet
   case rel => exact ⟨_, (0), (false), q9_, q9_, H', ⟨q12_⟩, q10_⟩
  ·rw [if_neg c3] at H
   have c3b0 : decide (18 < (a0.size : Int)) = false := decide_eq_false c3
   have c3b1 : decide (18 < a0.size) = false := decide_eq_false (by omega)
   clear c3
   (first | rw [c3b0] | (simp only [i64_w, i32_w]; rw [c3b0]) | skip)
   replace H := Option.bind_eq_some_iff.mp H
   obtain ⟨t151, A40, H⟩ := H
   have A4 := Aside0.mk A40
   clear A40
   by_cases c5 : t151 = true
   ·subst c5
    replace H : (if 1 ≤ (a0.size : Int) then ((impl_valueOf.f k (a0.extract 1 a0.size) (⟨#[48, 49, 50, 51, 52, 53, 54, 55, 56, 57, 65, 66, 67, 68, 69, 70]⟩ : ByteArray)).bind fun bt152 => (impl_ReadNum.j0 k bt152.1 bt152.2)) else (none)) = some (r1, r2) := by rw [if_pos rfl] at H; exact H
    by_cases c6 : 1 ≤ (a0.size : Int)
    ·rw [if_pos c6] at H
     have c6b0 := eq_true c6
     have c6b1 : decide (1 ≤ (a0.size : Int)) = true := decide_eq_true c6
     clear c6
     replace H := Option.bind_eq_some_iff.mp H
     obtain ⟨⟨t152, t153⟩, A70, H⟩ := H
     replace H : (impl_ReadNum.j0 k t152 t153) = some (r1, r2) := H
     have A7 := Aside0.mk A70
     clear A70
     have H' := Aside0.mk H
     clear H
     go_wp2_with (first | ((with_reducible refine gate_callee (f := 21) rfl ?_); refine goesL_ (some 17) rfl rfl Tryd.func21 (by kernel_rfl) rfl #[.string a0, .string (⟨#[36]⟩ : ByteArray)] rfl q6_ ?_; (with_reducible refine (strings_HasPrefix.calls a0 (⟨#[36]⟩ : ByteArray) true _ A4.out).mono ?_); rintro e w' ⟨rfl, ⟨nd, rfl⟩⟩; refine ⟨_, rfl, ?_⟩) | ((with_reducible refine gate_callee (f := 22) rfl ?_); refine goesL_ (some 21) rfl rfl Tryd.func22 (by kernel_rfl) rfl #[.string (a0.extract 1 a0.size), .string (⟨#[48, 49, 50, 51, 52, 53, 54, 55, 56, 57, 65, 66, 67, 68, 69, 70]⟩ : ByteArray)] rfl q6_ ?_; (with_reducible refine (impl_valueOf.calls k (a0.extract 1 a0.size) (⟨#[48, 49, 50, 51, 52, 53, 54, 55, 56, 57, 65, 66, 67, 68, 69, 70]⟩ : ByteArray) t152 t153 _ A7.out).mono ?_); rintro e w' ⟨rfl, ⟨nd, rfl⟩⟩; refine ⟨_, rfl, ?_⟩))
     go_meet
     case rel => exact ⟨_, (t152), (t153), q9_, q9_, H', ⟨q12_⟩, q10_⟩
    ·rw [if_neg c6] at H
     exact absurd H (by simp)
   ·replace c5 := Bool.eq_false_iff.mpr c5
    subst c5
    replace H : ((strings_HasPrefix.f a0 (⟨#[37]⟩ : ByteArray)).bind fun t154 => (if t154 = true then (if 1 ≤ (a0.size : Int) then ((impl_valueOf.f k (a0.extract 1 a0.size) (⟨#[48, 49]⟩ : ByteArray)).bind fun bt155 => (impl_ReadNum.j0 k bt155.1 bt155.2)) else (none)) else ((impl_valueOf.f k a0 (⟨#[48, 49, 50, 51, 52, 53, 54, 55, 56, 57]⟩ : ByteArray)).bind fun bt157 => (impl_ReadNum.j0 k bt157.1 bt157.2)))) = some (r1, r2) := by rw [if_neg (show ¬ (false = true) by decide)] at H; exact H
    replace H := Option.bind_eq_some_iff.mp H
    obtain ⟨t154, A80, H⟩ := H
    have A8 := Aside0.mk A80
    clear A80
    by_cases c9 : t154 = true
    ·subst c9
     replace H : (if 1 ≤ (a0.size : Int) then ((impl_valueOf.f k (a0.extract 1 a0.size) (⟨#[48, 49]⟩ : ByteArray)).bind fun bt155 => (impl_ReadNum.j0 k bt155.1 bt155.2)) else (none)) = some (r1, r2) := by rw [if_pos rfl] at H; exact H
     by_cases c10 : 1 ≤ (a0.size : Int)
     ·rw [if_pos c10] at H
      have c10b0 := eq_true c10
      have c10b1 : decide (1 ≤ (a0.size : Int)) = true := decide_eq_true c10
      clear c10
      replace H := Option.bind_eq_some_iff.mp H
      obtain ⟨⟨t155, t156⟩, A110, H⟩ := H
      replace H : (impl_ReadNum.j0 k t155 t156) = some (r1, r2) := H
      have A11 := Aside0.mk A110
      clear A110
      have H' := Aside0.mk H
      clear H
      go_wp2_with (first | ((with_reducible refine gate_callee (f := 21) rfl ?_); refine goesL_ (some 17) rfl rfl Tryd.func21 (by kernel_rfl) rfl #[.string a0, .string (⟨#[36]⟩ : ByteArray)] rfl q6_ ?_; (with_reducible refine (strings_HasPrefix.calls a0 (⟨#[36]⟩ : ByteArray) false _ A4.out).mono ?_); rintro e w' ⟨rfl, ⟨nd, rfl⟩⟩; refine ⟨_, rfl, ?_⟩) | ((with_reducible refine gate_callee (f := 21) rfl ?_); refine goesL_ (some 26) rfl rfl Tryd.func21 (by kernel_rfl) rfl #[.string a0, .string (⟨#[37]⟩ : ByteArray)] rfl q6_ ?_; (with_reducible refine (strings_HasPrefix.calls a0 (⟨#[37]⟩ : ByteArray) true _ A8.out).mono ?_); rintro e w' ⟨rfl, ⟨nd, rfl⟩⟩; refine ⟨_, rfl, ?_⟩) | ((with_reducible refine gate_callee (f := 22) rfl ?_); refine goesL_ (some 30) rfl rfl Tryd.func22 (by kernel_rfl) rfl #[.string (a0.extract 1 a0.size), .string (⟨#[48, 49]⟩ : ByteArray)] rfl q6_ ?_; (with_reducible refine (impl_valueOf.calls k (a0.extract 1 a0.size) (⟨#[48, 49]⟩ : ByteArray) t155 t156 _ A11.out).mono ?_); rintro e w' ⟨rfl, ⟨nd, rfl⟩⟩; refine ⟨_, rfl, ?_⟩))
      go_meet
      case rel => exact ⟨_, (t155), (t156), q9_, q9_, H', ⟨q12_⟩, q10_⟩
     ·rw [if_neg c10] at H
      exact absurd H (by simp)
    ·replace c9 := Bool.eq_false_iff.mpr c9
     subst c9
     replace H : ((impl_valueOf.f k a0 (⟨#[48, 49, 50, 51, 52, 53, 54, 55, 56, 57]⟩ : ByteArray)).bind fun bt157 => (impl_ReadNum.j0 k bt157.1 bt157.2)) = some (r1, r2) := by rw [if_neg (show ¬ (false = true) by decide)] at H; exact H
     replace H := Option.bind_eq_some_iff.mp H
     obtain ⟨⟨t157, t158⟩, A120, H⟩ := H
     replace H : (impl_ReadNum.j0 k t157 t158) = some (r1, r2) := H
     have A12 := Aside0.mk A120
     clear A120
     have H' := Aside0.mk H
     clear H
     go_wp2_with (first | ((with_reducible refine gate_callee (f := 21) rfl ?_); refine goesL_ (some 17) rfl rfl Tryd.func21 (by kernel_rfl) rfl #[.string a0, .string (⟨#[36]⟩ : ByteArray)] rfl q6_ ?_; (with_reducible refine (strings_HasPrefix.calls a0 (⟨#[36]⟩ : ByteArray) false _ A4.out).mono ?_); rintro e w' ⟨rfl, ⟨nd, rfl⟩⟩; refine ⟨_, rfl, ?_⟩) | ((with_reducible refine gate_callee (f := 21) rfl ?_); refine goesL_ (some 26) rfl rfl Tryd.func21 (by kernel_rfl) rfl #[.string a0, .string (⟨#[37]⟩ : ByteArray)] rfl q6_ ?_; (with_reducible refine (strings_HasPrefix.calls a0 (⟨#[37]⟩ : ByteArray) false _ A8.out).mono ?_); rintro e w' ⟨rfl, ⟨nd, rfl⟩⟩; refine ⟨_, rfl, ?_⟩) | ((with_reducible refine gate_callee (f := 22) rfl ?_); refine goesL_ (some 8) rfl rfl Tryd.func22 (by kernel_rfl) rfl #[.string a0, .string (⟨#[48, 49, 50, 51, 52, 53, 54, 55, 56, 57]⟩ : ByteArray)] rfl q6_ ?_; (with_reducible refine (impl_valueOf.calls k a0 (⟨#[48, 49, 50, 51, 52, 53, 54, 55, 56, 57]⟩ : ByteArray) t157 t158 _ A12.out).mono ?_); rintro e w' ⟨rfl, ⟨nd, rfl⟩⟩; refine ⟨_, rfl, ?_⟩))
     go_meet
     case rel => exact ⟨_, (t157), (t158), q9_, q9_, H', ⟨q12_⟩, q10_⟩
 case rest =>
  clear HC2
  try clear c1
  try clear c2
  try clear p2
  try clear c3
  try clear c3b0
  try clear c3b1
  try clear c5
  try clear c6
  try clear c6b0
  try clear c6b1
  try clear p6
  try clear c9
  try clear c10
  try clear c10b0
  try clear c10b1
  obtain ⟨kq, x4_1, x5_1, rfl, rfl, HA, HJ1, ⟨mc1, rfl⟩⟩ := hcut
  cases kq with
  | zero => exact absurd HA.out (by simp [impl_ReadNum.j0])
  | succ kj1 =>
   have H := HA.out
   clear HA
   simp only [impl_ReadNum.j0] at H
   by_cases c13 : x5_1 = true
   ·subst c13
    replace H : (some (x4_1, true)) = some (r1, r2) := by rw [if_pos rfl] at H; exact H
    simp only [Option.some.injEq, Prod.mk.injEq] at H
    obtain ⟨rfl, rfl⟩ := H
    go_wp2
    go_ret2
    exact ⟨q9_, q10_⟩
   ·replace c13 := Bool.eq_false_iff.mpr c13
    subst c13
    replace H : (some (0, false)) = some (r1, r2) := by rw [if_neg (show ¬ (false = true) by decide)] at H; exact H
    simp only [Option.some.injEq, Prod.mk.injEq] at H
    obtain ⟨rfl, rfl⟩ := H
    go_wp2
    go_ret2
    exact ⟨q9_, q10_⟩
def laws_FnHex.j0 : Nat → Int → Int → ByteArray → Bool → Option (Bool)
 | 0, _, _, _, _ => none
 | k + 1, x3, x4, x5, x26 => if x26 = true then ((spec_HexOf.f k x3 x4).bind fun t164 => (some (x5.toList == t164.toList))) else ((impl_ReadNum.f k x5).bind fun bt165 => (if bt165.2 = true then (if bt165.1 = x3 then (some ((x5.size : Int) == (wrap64 (x4 + 1)))) else (some false)) else (some false)))
def laws_FnHex.f (k : Nat) (l0 : List Int) : Option (Bool) := (laws_big.f l0).bind fun t159 => (if t159 = true then (some true) else ((spec_DrawHexOf.f k l0).bind fun bt160 => ((impl_HexOf.f k bt160.1 bt160.2).bind fun t162 => ((spec_HexOf.f k bt160.1 bt160.2).bind fun t163 => (if t162.toList = t163.toList then (laws_FnHex.j0 k bt160.1 bt160.2 t162 (t162.toList == ([] : List UInt8))) else (laws_FnHex.j0 k bt160.1 bt160.2 t162 true))))))
theorem laws_FnHex.mono_l : ∀ k, (∀ y0 y1 y2 y3, LeO (laws_FnHex.j0 k y0 y1 y2 y3) (laws_FnHex.j0 (k + 1) y0 y1 y2 y3))
 | 0 => fun _ _ _ _ r h => by simp [laws_FnHex.j0] at h
 | k + 1 => by
  have ih0 := laws_FnHex.mono_l k
  ·intro y0 y1 y2 y3
   unfold laws_FnHex.j0
   repeat' first
   | (with_reducible first | exact ih0 _ _ _ _ | exact impl_HexOf.mono _ _ _ | exact impl_ReadNum.mono _ _ | exact spec_DrawHexOf.mono _ _ | exact spec_HexOf.mono _ _ _ | exact LeO.refl _ | exact LeO.none _ | refine LeO.ite ?_ ?_ | refine LeO.bind ?_ (fun _ => ?_))
   | exact ih0 _ _ _ _
   | exact impl_HexOf.mono _ _ _
   | exact impl_ReadNum.mono _ _
   | exact spec_DrawHexOf.mono _ _
   | exact spec_HexOf.mono _ _ _
   | exact LeO.none _
   | refine LeO.ite ?_ ?_
   | refine LeO.bind ?_ (fun _ => ?_)
theorem laws_FnHex.mono : ∀ a0 k, LeO (laws_FnHex.f k a0) (laws_FnHex.f (k + 1) a0) := by
 intro a0 k
 have ih0 := laws_FnHex.mono_l k
 unfold laws_FnHex.f
 repeat' first
   | (with_reducible first | exact ih0 _ _ _ _ | exact impl_HexOf.mono _ _ _ | exact impl_ReadNum.mono _ _ | exact spec_DrawHexOf.mono _ _ | exact spec_HexOf.mono _ _ _ | exact LeO.refl _ | exact LeO.none _ | refine LeO.ite ?_ ?_ | refine LeO.bind ?_ (fun _ => ?_))
   | exact ih0 _ _ _ _
   | exact impl_HexOf.mono _ _ _
   | exact impl_ReadNum.mono _ _
   | exact spec_DrawHexOf.mono _ _
   | exact spec_HexOf.mono _ _ _
   | exact LeO.none _
   | refine LeO.ite ?_ ?_
   | refine LeO.bind ?_ (fun _ => ?_)
theorem laws_FnHex.calls (k : Nat) (A0 : Option Addr) (c0 : Nat) (l0 : List Int) (r : Bool) (w : World) (hr0 : Kd.C (Kd.int .u8) w A0 l0.length l0) (hc0 : l0.length ≤ c0) (h : laws_FnHex.f k l0 = some r) (hG : Go.Proofs.YtodlnnoekccmmaaDoor.LibW.GL w := by first | exact hG | exact hG.below q0_ | exact hG.drewN _) :
  Calls Tryd.prog 3 #[.slice A0 l0.length c0] w fun e w' => e = .returned (.bool r) ∧ Below w.heap.size w w' := by
 have HR0 := Aside0.mk hr0
 have HC0 := Aside0.mk hc0
 clear hr0 hc0
 have HB := Aside0.mk (Below.refl w.heap.size w)
 have H : ((laws_big.f l0).bind fun t159 => (if t159 = true then (some true) else ((spec_DrawHexOf.f k l0).bind fun bt160 => ((impl_HexOf.f k bt160.1 bt160.2).bind fun t162 => ((spec_HexOf.f k bt160.1 bt160.2).bind fun t163 => (if t162.toList = t163.toList then (laws_FnHex.j0 k bt160.1 bt160.2 t162 (t162.toList == ([] : List UInt8))) else (laws_FnHex.j0 k bt160.1 bt160.2 t162 true))))))) = some r := h
 clear h
 replace H := Option.bind_eq_some_iff.mp H
 obtain ⟨t159, A20, H⟩ := H
 have A2 := Aside0.mk A20
 clear A20
 by_cases c3 : t159 = true
 ·subst c3
  replace H : (some true) = some r := by rw [if_pos rfl] at H; exact H
  obtain rfl := Option.some.inj H
  go_enter Tryd.func3, Tryd.ntmps3
  go_wp2_with (first | ((with_reducible refine gate_callee (f := 5) rfl ?_); refine goesL_ (some 9) rfl rfl Tryd.func5 (by kernel_rfl) rfl #[.slice A0 l0.length c0] rfl q6_ ?_; (with_reducible refine (laws_big.calls _ _ l0 true _ ?side1 ?side2 A2.out).mono ?_); (case side1 => exact q16_); (case side2 => exact HC0.out); rintro e w' ⟨rfl, ⟨nd, rfl⟩⟩; refine ⟨_, rfl, ?_⟩))
  go_ret
  exact ⟨q8_, q7_⟩
 ·replace c3 := Bool.eq_false_iff.mpr c3
  subst c3
  replace H : ((spec_DrawHexOf.f k l0).bind fun bt160 => ((impl_HexOf.f k bt160.1 bt160.2).bind fun t162 => ((spec_HexOf.f k bt160.1 bt160.2).bind fun t163 => (if t162.toList = t163.toList then (laws_FnHex.j0 k bt160.1 bt160.2 t162 (t162.toList == ([] : List UInt8))) else (laws_FnHex.j0 k bt160.1 bt160.2 t162 true))))) = some r := by rw [if_neg (show ¬ (false = true) by decide)] at H; exact H
  replace H := Option.bind_eq_some_iff.mp H
  obtain ⟨⟨t160, t161⟩, A40, H⟩ := H
  replace H : ((impl_HexOf.f k t160 t161).bind fun t162 => ((spec_HexOf.f k t160 t161).bind fun t163 => (if t162.toList = t163.toList then (laws_FnHex.j0 k t160 t161 t162 (t162.toList == ([] : List UInt8))) else (laws_FnHex.j0 k t160 t161 t162 true)))) = some r := H
  have A4 := Aside0.mk A40
  clear A40
  replace H := Option.bind_eq_some_iff.mp H
  obtain ⟨t162, A50, H⟩ := H
  have A5 := Aside0.mk A50
  clear A50
  have HC6 := Aside0.mk H
  clear H
  go_enter Tryd.func3, Tryd.ntmps3
  go_upto_region 5 with (first | ((with_reducible refine gate_callee (f := 5) rfl ?_); refine goesL_ (some 9) rfl rfl Tryd.func5 (by kernel_rfl) rfl #[.slice A0 l0.length c0] rfl q6_ ?_; (with_reducible refine (laws_big.calls _ _ l0 false _ ?side1 ?side2 A2.out).mono ?_); (case side1 => exact q16_); (case side2 => exact HC0.out); rintro e w' ⟨rfl, ⟨nd, rfl⟩⟩; refine ⟨_, rfl, ?_⟩) | ((with_reducible refine gate_callee (f := 6) rfl ?_); refine goesL_ (some 12) rfl rfl Tryd.func6 (by kernel_rfl) rfl #[.slice A0 l0.length c0] rfl q6_ ?_; (with_reducible refine (spec_DrawHexOf.calls k _ _ l0 t160 t161 _ ?side1 ?side2 A4.out).mono ?_); (case side1 => exact q16_); (case side2 => exact HC0.out); rintro e w7 ⟨rfl, hb⟩; refine ⟨_, rfl, ?_⟩; replace HB := Aside0.mk (below_step q7_ hb); (try clear hb)) | ((with_reducible refine gate_callee (f := 7) rfl ?_); refine goesL_ (some 17) rfl rfl Tryd.func7 (by kernel_rfl) rfl #[.int .i64 t160, .int .i64 t161] rfl q6_ ?_; (with_reducible refine (impl_HexOf.calls k t160 t161 t162 _ A5.out).mono ?_); rintro e w8 ⟨rfl, hb⟩; refine ⟨_, rfl, ?_⟩; replace HB := Aside0.mk (below_step q7_ hb); (try clear hb)))
  (try simp only [Act.put, List.setIfInBounds_toArray, List.set_cons_zero, List.set_cons_succ])
  go_cut [26] (fun v26 wc => ∃ (kq : Nat) (x26_5 : Bool), v26 = .bool x26_5 ∧ Aside0 (laws_FnHex.j0 kq t160 t161 t162 x26_5 = some r) ∧ Aside0 (kq ≤ k) ∧ Aside0 (Below w.heap.size w wc))
  case first =>
   have H := HC6.out
   clear HC6
   replace H := Option.bind_eq_some_iff.mp H
   obtain ⟨t163, A90, H⟩ := H
   have A9 := Aside0.mk A90
   clear A90
   by_cases c10 : t162.toList = t163.toList
   ·rw [if_pos c10] at H
    have c10b0 : (t162.toList == t163.toList) = true := beq_iff_eq.mpr c10
    have c10b1 : (t162.toList != t163.toList) = false := bne_eq_false_iff_eq.mpr c10
    clear c10
    (first | rw [c10b0] | (simp only [i64_w, i32_w]; rw [c10b0]) | skip)
    have H' := Aside0.mk H
    clear H
    go_wp2_with (first | ((with_reducible refine gate_callee (f := 8) rfl ?_); refine goesL_ (some 21) rfl rfl Tryd.func8 (by kernel_rfl) rfl #[.int .i64 t160, .int .i64 t161] rfl q6_ ?_; (with_reducible refine (spec_HexOf.calls k t160 t161 t163 _ A9.out).mono ?_); rintro e w' ⟨rfl, ⟨nd, rfl⟩⟩; refine ⟨_, rfl, ?_⟩))
    go_meet
    case rel => exact ⟨_, ((t162.toList == ([] : List UInt8))), q9_, H', ⟨q12_⟩, ⟨q7_⟩⟩
   ·rw [if_neg c10] at H
    have c10b0 : (t162.toList == t163.toList) = false := beq_eq_false_iff_ne.mpr c10
    have c10b1 : (t162.toList != t163.toList) = true := bne_iff_ne.mpr c10
    (first | rw [c10b0] | (simp only [i64_w, i32_w]; rw [c10b0]) | skip)
    have H' := Aside0.mk H
    clear H
    go_wp2_with (first | ((with_reducible refine gate_callee (f := 8) rfl ?_); refine goesL_ (some 21) rfl rfl Tryd.func8 (by kernel_rfl) rfl #[.int .i64 t160, .int .i64 t161] rfl q6_ ?_; (with_reducible refine (spec_HexOf.calls k t160 t161 t163 _ A9.out).mono ?_); rintro e w' ⟨rfl, ⟨nd, rfl⟩⟩; refine ⟨_, rfl, ?_⟩))
    go_meet
    case rel => exact ⟨_, (true), q9_, H', ⟨q12_⟩, ⟨q7_⟩⟩
  case rest =>
   clear HC6
   try clear c1
   try clear p2
   try clear c3
   try clear c5
   try clear c6
   try clear p6
   try clear c7
   try clear c8
   try clear c10
   try clear c10b0
   try clear c10b1
   obtain ⟨kq, x26_5, rfl, HA, HJ5, HB⟩ := hcut
   cases kq with
   | zero => exact absurd HA.out (by simp [laws_FnHex.j0])
   | succ kj5 =>
    have H := HA.out
    clear HA
    simp only [laws_FnHex.j0] at H
    by_cases c11 : x26_5 = true
    ·subst c11
     replace H : ((spec_HexOf.f kj5 t160 t161).bind fun t164 => (some (t162.toList == t164.toList))) = some r := by rw [if_pos rfl] at H; exact H
     replace H := Option.bind_eq_some_iff.mp H
     obtain ⟨t164, A120, H⟩ := H
     have A12 := Aside0.mk A120
     clear A120
     obtain rfl := Option.some.inj H
     go_wp2_with (first | ((with_reducible refine gate_callee (f := 8) rfl ?_); refine goesL_ (some 30) rfl rfl Tryd.func8 (by kernel_rfl) rfl #[.int .i64 t160, .int .i64 t161] rfl q6_ ?_; (with_reducible refine (spec_HexOf.calls kj5 t160 t161 t164 _ A12.out).mono ?_); rintro e w' ⟨rfl, ⟨nd, rfl⟩⟩; refine ⟨_, rfl, ?_⟩))
     go_ret
     exact ⟨q8_, q7_⟩
    ·replace c11 := Bool.eq_false_iff.mpr c11
     subst c11
     replace H : ((impl_ReadNum.f kj5 t162).bind fun bt165 => (if bt165.2 = true then (if bt165.1 = t160 then (some ((t162.size : Int) == (wrap64 (t161 + 1)))) else (some false)) else (some false))) = some r := by rw [if_neg (show ¬ (false = true) by decide)] at H; exact H
     replace H := Option.bind_eq_some_iff.mp H
     obtain ⟨⟨t165, t166⟩, A130, H⟩ := H
     replace H : (if t166 = true then (if t165 = t160 then (some ((t162.size : Int) == (wrap64 (t161 + 1)))) else (some false)) else (some false)) = some r := H
     have A13 := Aside0.mk A130
     clear A130
     by_cases c14 : t166 = true
     ·subst c14
      replace H : (if t165 = t160 then (some ((t162.size : Int) == (wrap64 (t161 + 1)))) else (some false)) = some r := by rw [if_pos rfl] at H; exact H
      by_cases c15 : t165 = t160
      ·rw [if_pos c15] at H
       have c15b0 : (t165 == t160) = true := beq_iff_eq.mpr c15
       have c15b1 : (t165 != t160) = false := bne_eq_false_iff_eq.mpr c15
       clear c15
       obtain rfl := Option.some.inj H
       go_wp2_with (first | ((with_reducible refine gate_callee (f := 9) rfl ?_); refine goesL_ (some 34) rfl rfl Tryd.func9 (by kernel_rfl) rfl #[.string t162] rfl q6_ ?_; (with_reducible refine (impl_ReadNum.calls kj5 t162 t165 true _ A13.out).mono ?_); rintro e w' ⟨rfl, ⟨nd, rfl⟩⟩; refine ⟨_, rfl, ?_⟩))
       go_ret
       exact ⟨q8_, q7_⟩
      ·rw [if_neg c15] at H
       have c15b0 : (t165 == t160) = false := beq_eq_false_iff_ne.mpr c15
       have c15b1 : (t165 != t160) = true := bne_iff_ne.mpr c15
       obtain rfl := Option.some.inj H
       go_wp2_with (first | ((with_reducible refine gate_callee (f := 9) rfl ?_); refine goesL_ (some 34) rfl rfl Tryd.func9 (by kernel_rfl) rfl #[.string t162] rfl q6_ ?_; (with_reducible refine (impl_ReadNum.calls kj5 t162 t165 true _ A13.out).mono ?_); rintro e w' ⟨rfl, ⟨nd, rfl⟩⟩; refine ⟨_, rfl, ?_⟩))
       go_ret
       exact ⟨q8_, q7_⟩
     ·replace c14 := Bool.eq_false_iff.mpr c14
      subst c14
      replace H : (some false) = some r := by rw [if_neg (show ¬ (false = true) by decide)] at H; exact H
      obtain rfl := Option.some.inj H
      go_wp2_with (first | ((with_reducible refine gate_callee (f := 9) rfl ?_); refine goesL_ (some 34) rfl rfl Tryd.func9 (by kernel_rfl) rfl #[.string t162] rfl q6_ ?_; (with_reducible refine (impl_ReadNum.calls kj5 t162 t165 false _ A13.out).mono ?_); rintro e w' ⟨rfl, ⟨nd, rfl⟩⟩; refine ⟨_, rfl, ?_⟩))
      go_ret
      exact ⟨q8_, q7_⟩
/-- THE ONE PURE STATEMENT of laws_FnHex: yours. -/
def laws_FnHex.Pure : Prop := ∀ (l0 : List Int), l0.length ≤ maxLen → l0.length * 1 ≤ 140737488351232 → (∀ x ∈ l0, (Lit.int .u8 x).wf = true) → ∃ k, laws_FnHex.f k l0 = some true
theorem laws_FnHex.walk (P : laws_FnHex.Pure) (a0 : Option Addr) (len0 cap0 : Nat) (z0 : List Int) (w : World) (w0 : (a0 = none ∧ len0 = 0 ∧ cap0 = 0 ∧ z0 = []) ∨ ∃ x, a0 = some x ∧ len0 ≤ cap0 ∧ cap0 ≤ maxLen ∧ z0.length = cap0 ∧ (∀ i, i < z0.length → w.cell? (x.add i) = some (.int .u8 (z0.getD i 0))) ∧ ∀ n ∈ z0, (Lit.int .u8 n).wf = true) (y0 : len0 * 1 ≤ 140737488351232) (hG : Go.Proofs.YtodlnnoekccmmaaDoor.LibW.GL w) :
  Calls Tryd.prog 3 #[.slice a0 len0 cap0] w fun e w' => e = .returned (.bool true) ∧ Below w.heap.size w w' := by
 obtain ⟨l0, rfl, hr0, hm0, hw0, hc0⟩ := ReadsInt.ofRowC w0
 obtain ⟨k, h⟩ := P l0 hm0 y0 hw0
 refine (laws_FnHex.calls k _ _ l0 true w (Kd.C_of_reads (d := (0 : Int)) (h1 := fun _ => rfl) hr0) hc0 h).mono ?_
 rintro e w' ⟨rfl, hd⟩
 exact ⟨rfl, hd⟩
end Go.Proofs.YtodlnnoekccmmaaDoor.QFnHex
