/- The machine's side of a law, written by a program of this session for this claim. -/
import Derived.Test.YtcohcndliaaacaaDoorZQq
import Derived.Test.YtcohcndliaaacaaDoorZQFnFixedx0
import Derived.Test.YtcohcndliaaacaaDoorZQFnFixedx3
import Derived.Test.YtcohcndliaaacaaDoorZQFnFixedx10
namespace Go.Proofs.YtcohcndliaaacaaDoor.QFnFixed
open Go.Proofs.YtcohcndliaaacaaDoor.Qq
open Go.RowKit Go.Proofs.YtcohcndliaaacaaDoor.LibX Go.Proofs.YtcohcndliaaacaaDoor.LibE Go.Proofs.YtcohcndliaaacaaDoorW.PrintWords Go.Proofs.YtcohcndliaaacaaDoorW.PrintLast Go.Proofs.YtcohcndliaaacaaDoorW.PrintMore
attribute [local go_sem] max2_int min2_int max_two min_two max_three min_three max_four min_four   -- for this text's walks alone
set_option maxHeartbeats 8000000
set_option maxRecDepth 100000
set_option linter.unusedVariables false
set_option linter.unusedSimpArgs false
def spec_l12Code.l0 : Nat → Int → Int → Int → Option (Int)
 | 0, _, _, _ => none
 | k + 1, x0, x3, x4 => if x4 < x0 then (spec_l12Code.l0 k x0 (wrap64 (x3 + 1)) (wrap64 (2 * x4))) else (if x0 < 2 then (some (-1)) else (if 0 ≤ (IntKind.u64.wrap (x3)) then (if (shl .i64 2 (IntKind.u64.wrap (x3))) = x0 then (some x3) else (some (-1))) else (none)))
def spec_l12Code.f (k : Nat) (a0 : Int) : Option (Int) := spec_l12Code.l0 k a0 0 2
theorem spec_l12Code.mono_l : ∀ k, (∀ y0 y1 y2, LeO (spec_l12Code.l0 k y0 y1 y2) (spec_l12Code.l0 (k + 1) y0 y1 y2))
 | 0 => fun _ _ _ r h => by simp [spec_l12Code.l0] at h
 | k + 1 => by
  have ih0 := spec_l12Code.mono_l k
  ·intro y0 y1 y2
   unfold spec_l12Code.l0
   repeat' first
   | (with_reducible first | exact ih0 _ _ _ | exact LeO.refl _ | exact LeO.none _ | refine LeO.ite ?_ ?_ | refine LeO.bind ?_ (fun _ => ?_))
   | exact ih0 _ _ _
   | exact LeO.none _
   | refine LeO.ite ?_ ?_
   | refine LeO.bind ?_ (fun _ => ?_)
theorem spec_l12Code.mono : ∀ a0 k, LeO (spec_l12Code.f k a0) (spec_l12Code.f (k + 1) a0) := by
 intro a0 k
 have ih0 := spec_l12Code.mono_l k
 unfold spec_l12Code.f
 repeat' first
   | (with_reducible first | exact ih0 _ _ _ | exact LeO.refl _ | exact LeO.none _ | refine LeO.ite ?_ ?_ | refine LeO.bind ?_ (fun _ => ?_))
   | exact ih0 _ _ _
   | exact LeO.none _
   | refine LeO.ite ?_ ?_
   | refine LeO.bind ?_ (fun _ => ?_)
theorem spec_l12Code.calls (k : Nat) (a0 : Int) (r : Int) (w : World) (h : spec_l12Code.f k a0 = some r) :
  Calls Tryd.prog 31 #[.int .i64 a0] w fun e w' => e = .returned (.int .i64 r) ∧ Drawn0 w w' := by
 have H : (spec_l12Code.l0 k a0 0 2) = some r := h
 clear h
 have H' := Aside0.mk H
 clear H
 go_enter Tryd.func31, Tryd.ntmps31
 go_wp2
 go_loopg [3, 4] k (fun kq v3 v4 w' => ∃ (x3_1 : Int) (x4_1 : Int), v3 = .int .i64 x3_1 ∧ v4 = .int .i64 x4_1 ∧ Aside0 (spec_l12Code.l0 kq a0 x3_1 x4_1 = some r) ∧ Aside0 (kq ≤ k) ∧ Drawn0 w w')
 case atStart => exact ⟨(0), (2), q60_, q60_, H', ⟨Nat.le_refl _⟩, q69_⟩
 case round =>
  clear H'
  obtain ⟨x3_1, x4_1, rfl, rfl, HA, HK1, ⟨m1, rfl⟩⟩ := hrel
  cases gk with
  | zero => exact absurd HA.out (by simp [spec_l12Code.l0])
  | succ k1 =>
   have H := HA.out
   clear HA
   simp only [spec_l12Code.l0] at H
   by_cases c2 : x4_1 < a0
   ·rw [if_pos c2] at H
    have c2b0 : decide (x4_1 < a0) = true := decide_eq_true c2
    clear c2
    have H' := Aside0.mk H
    clear H
    go_wp2
    go_roundg k1
    case measure => have := HK1.out; omega
    case rel => exact ⟨(wrap64 (x3_1 + 1)), (wrap64 (2 * x4_1)), q60_, q60_, H', ⟨by have := HK1.out; omega⟩, q69_⟩
   ·rw [if_neg c2] at H
    have c2b0 : decide (x4_1 < a0) = false := decide_eq_false c2
    clear c2
    by_cases c3 : a0 < 2
    ·rw [if_pos c3] at H
     have c3b0 : decide (a0 < 2) = true := decide_eq_true c3
     clear c3
     obtain rfl := Option.some.inj H
     go_wp2
     go_ret
     exact ⟨q60_, q69_⟩
    ·rw [if_neg c3] at H
     have c3b0 : decide (a0 < 2) = false := decide_eq_false c3
     clear c3
     obtain ⟨ji4, hji4⟩ : ∃ j_ : Int, (IntKind.u64.wrap (x3_1)) = j_ := ⟨_, rfl⟩
     replace H : (if 0 ≤ (ji4) then (if (shl .i64 2 (ji4)) = a0 then (some x3_1) else (some (-1))) else (none)) = some r := by first | (rw [hji4] at H; exact H) | (simp only [hji4] at H ⊢; exact H)
     by_cases c5 : 0 ≤ (ji4)
     ·rw [if_pos c5] at H
      have c5b0 := eq_true c5
      have c5b1 : decide (0 ≤ (ji4)) = true := decide_eq_true c5
      clear c5
      obtain ⟨ji6, hji6⟩ : ∃ j_ : Int, (shl .i64 2 (ji4)) = j_ := ⟨_, rfl⟩
      replace H : (if (ji6) = a0 then (some x3_1) else (some (-1))) = some r := by first | (rw [hji6] at H; exact H) | (simp only [hji6] at H ⊢; exact H)
      have hji6_ : (IntKind.i64.wrap (2 * 2 ^ min (ji4).toNat 64)) = ji6 := hji6
      have hji6z : (ji4) ≤ 64 → (IntKind.i64.wrap (2 * 2 ^ (ji4).toNat)) = ji6 := shl_small hji6
      have hji6y : (wrap64 (2 * 2 ^ min (ji4).toNat 64)) = ji6 := (i64_w _).symm.trans hji6_
      have hji6x : (ji4) ≤ 64 → (wrap64 (2 * 2 ^ (ji4).toNat)) = ji6 := fun h_ => (i64_w _).symm.trans (hji6z h_)
      by_cases c7 : (ji6) = a0
      ·rw [if_pos c7] at H
       have c7b0 : ((ji6) == a0) = true := beq_iff_eq.mpr c7
       have c7b1 : ((ji6) != a0) = false := bne_eq_false_iff_eq.mpr c7
       clear c7
       obtain rfl := Option.some.inj H
       go_wp2
       go_ret
       exact ⟨q31_, q69_⟩
      ·rw [if_neg c7] at H
       have c7b0 : ((ji6) == a0) = false := beq_eq_false_iff_ne.mpr c7
       have c7b1 : ((ji6) != a0) = true := bne_iff_ne.mpr c7
       obtain rfl := Option.some.inj H
       go_wp2
       go_ret
       exact ⟨q31_, q69_⟩
     ·rw [if_neg c5] at H
      exact absurd H (by simp)
mutual
def spec_Fixed.j0 : Nat → ByteArray → ByteArray → Int → Int → Bool → Option (ByteArray × Bool)
 | 0, _, _, _, _, _ => none
 | k + 1, x0, x1, x2, x8, x34 => if x34 = true then (some ((⟨#[]⟩ : ByteArray), false)) else (spec_Fixed.l0 k x0 x1 x2 x8 2)
def spec_Fixed.l0 : Nat → ByteArray → ByteArray → Int → Int → Int → Option (ByteArray × Bool)
 | 0, _, _, _, _, _ => none
 | k + 1, x0, x1, x2, x8, x9 => if x9 < x8 then (spec_Fixed.l0 k x0 x1 x2 x8 (wrap64 (2 * x9))) else (if 0 ≤ (wrap64 (x9 * 256)) then (if (wrap64 (x9 * 256) : Int).toNat ≤ 281474976710656 then ((some (List.replicate (wrap64 (x9 * 256) : Int).toNat 0 : List Int)).bind fun y446 => (spec_Fixed.l1 k x1 x2 x9 (cpy y446 0 (y446.length) (bytesOf x0)) 0)) else (none)) else (none))
def spec_Fixed.l1 : Nat → ByteArray → Int → Int → List Int → Int → Option (ByteArray × Bool)
 | 0, _, _, _, _, _ => none
 | k + 1, x1, x2, x9, x10, x11 => if x11 < 15 then (if 0 ≤ (wrap64 (52 + x11)) then (if (wrap64 (52 + x11)) < (x10.length : Int) then ((some (x10.set ((wrap64 (52 + x11)) : Int).toNat 0 : List Int)).bind fun y450 => (if x11 < (x1.size : Int) then (if 0 ≤ x11 then (spec_Fixed.l1 k x1 x2 x9 (y450.set ((wrap64 (52 + x11)) : Int).toNat (bt x1 x11)) (wrap64 (x11 + 1))) else (none)) else (spec_Fixed.l1 k x1 x2 x9 y450 (wrap64 (x11 + 1))))) else (none)) else (none)) else (if 71 < (x10.length : Int) then ((spec_l12Code.f k x9).bind fun t453 => (if 72 < (x10.length : Int) then ((some ((x10.set (71 : Int).toNat ((x2) % 256)).set (72 : Int).toNat ((t453) % 256) : List Int)).bind fun y454 => ((spec_HeaderSum.f k (strOfNums y454)).bind fun t455 => (if 77 < (x10.length : Int) then ((some (y454.set (77 : Int).toNat ((t455) % 256) : List Int)).bind fun y456 => ((spec_WholeSum.f k (strOfNums y456)).bind fun t457 => (if 78 < (x10.length : Int) then (if 79 < (x10.length : Int) then (some (strOfNums ((y456.set (78 : Int).toNat ((t457 / 256) % 256)).set (79 : Int).toNat ((t457) % 256)), true)) else (none)) else (none)))) else (none)))) else (none))) else (none))
end
def spec_Fixed.f (k : Nat) (a0 : ByteArray) (a1 : ByteArray) (a2 : Int) : Option (ByteArray × Bool) := if ((a0.size : Int) % 256) = 0 then ((spec_l1In.f (wrap64 ((a0.size : Int) / 256)) 1 16).bind fun t443 => (if t443 = true then ((spec_l12Title.f k a1).bind fun t444 => (if t444 = true then ((spec_l1In.f a2 0 2).bind fun t445 => (spec_Fixed.j0 k a0 a1 a2 (wrap64 ((a0.size : Int) / 256)) (!t445))) else (spec_Fixed.j0 k a0 a1 a2 (wrap64 ((a0.size : Int) / 256)) true))) else (spec_Fixed.j0 k a0 a1 a2 (wrap64 ((a0.size : Int) / 256)) true))) else (spec_Fixed.j0 k a0 a1 a2 (wrap64 ((a0.size : Int) / 256)) true)
theorem spec_Fixed.mono_l : ∀ k, (∀ y0 y1 y2 y3 y4, LeO (spec_Fixed.j0 k y0 y1 y2 y3 y4) (spec_Fixed.j0 (k + 1) y0 y1 y2 y3 y4)) ∧ (∀ y0 y1 y2 y3 y4, LeO (spec_Fixed.l0 k y0 y1 y2 y3 y4) (spec_Fixed.l0 (k + 1) y0 y1 y2 y3 y4)) ∧ (∀ y0 y1 y2 y3 y4, LeO (spec_Fixed.l1 k y0 y1 y2 y3 y4) (spec_Fixed.l1 (k + 1) y0 y1 y2 y3 y4))
 | 0 => ⟨fun _ _ _ _ _ r h => by simp [spec_Fixed.j0] at h, fun _ _ _ _ _ r h => by simp [spec_Fixed.l0] at h, fun _ _ _ _ _ r h => by simp [spec_Fixed.l1] at h⟩
 | k + 1 => by
  obtain ⟨ih0, ih1, ih2⟩ := spec_Fixed.mono_l k
  refine ⟨?_, ?_, ?_⟩
  ·intro y0 y1 y2 y3 y4
   unfold spec_Fixed.j0
   repeat' first
   | (with_reducible first | exact ih0 _ _ _ _ _ | exact ih1 _ _ _ _ _ | exact ih2 _ _ _ _ _ | exact spec_HeaderSum.mono _ _ | exact spec_WholeSum.mono _ _ | exact spec_l12Code.mono _ _ | exact spec_l12Title.mono _ _ | exact LeO.refl _ | exact LeO.none _ | refine LeO.ite ?_ ?_ | refine LeO.bind ?_ (fun _ => ?_))
   | exact ih0 _ _ _ _ _
   | exact ih1 _ _ _ _ _
   | exact ih2 _ _ _ _ _
   | exact spec_HeaderSum.mono _ _
   | exact spec_WholeSum.mono _ _
   | exact spec_l12Code.mono _ _
   | exact spec_l12Title.mono _ _
   | exact LeO.none _
   | refine LeO.ite ?_ ?_
   | refine LeO.bind ?_ (fun _ => ?_)
  ·intro y0 y1 y2 y3 y4
   unfold spec_Fixed.l0
   repeat' first
   | (with_reducible first | exact ih0 _ _ _ _ _ | exact ih1 _ _ _ _ _ | exact ih2 _ _ _ _ _ | exact spec_HeaderSum.mono _ _ | exact spec_WholeSum.mono _ _ | exact spec_l12Code.mono _ _ | exact spec_l12Title.mono _ _ | exact LeO.refl _ | exact LeO.none _ | refine LeO.ite ?_ ?_ | refine LeO.bind ?_ (fun _ => ?_))
   | exact ih0 _ _ _ _ _
   | exact ih1 _ _ _ _ _
   | exact ih2 _ _ _ _ _
   | exact spec_HeaderSum.mono _ _
   | exact spec_WholeSum.mono _ _
   | exact spec_l12Code.mono _ _
   | exact spec_l12Title.mono _ _
   | exact LeO.none _
   | refine LeO.ite ?_ ?_
   | refine LeO.bind ?_ (fun _ => ?_)
  ·intro y0 y1 y2 y3 y4
   unfold spec_Fixed.l1
   repeat' first
   | (with_reducible first | exact ih0 _ _ _ _ _ | exact ih1 _ _ _ _ _ | exact ih2 _ _ _ _ _ | exact spec_HeaderSum.mono _ _ | exact spec_WholeSum.mono _ _ | exact spec_l12Code.mono _ _ | exact spec_l12Title.mono _ _ | exact LeO.refl _ | exact LeO.none _ | refine LeO.ite ?_ ?_ | refine LeO.bind ?_ (fun _ => ?_))
   | exact ih0 _ _ _ _ _
   | exact ih1 _ _ _ _ _
   | exact ih2 _ _ _ _ _
   | exact spec_HeaderSum.mono _ _
   | exact spec_WholeSum.mono _ _
   | exact spec_l12Code.mono _ _
   | exact spec_l12Title.mono _ _
   | exact LeO.none _
   | refine LeO.ite ?_ ?_
   | refine LeO.bind ?_ (fun _ => ?_)
theorem spec_Fixed.mono : ∀ a0 a1 a2 k, LeO (spec_Fixed.f k a0 a1 a2) (spec_Fixed.f (k + 1) a0 a1 a2) := by
 intro a0 a1 a2 k
 obtain ⟨ih0, ih1, ih2⟩ := spec_Fixed.mono_l k
 unfold spec_Fixed.f
 repeat' first
   | (with_reducible first | exact ih0 _ _ _ _ _ | exact ih1 _ _ _ _ _ | exact ih2 _ _ _ _ _ | exact spec_HeaderSum.mono _ _ | exact spec_WholeSum.mono _ _ | exact spec_l12Code.mono _ _ | exact spec_l12Title.mono _ _ | exact LeO.refl _ | exact LeO.none _ | refine LeO.ite ?_ ?_ | refine LeO.bind ?_ (fun _ => ?_))
   | exact ih0 _ _ _ _ _
   | exact ih1 _ _ _ _ _
   | exact ih2 _ _ _ _ _
   | exact spec_HeaderSum.mono _ _
   | exact spec_WholeSum.mono _ _
   | exact spec_l12Code.mono _ _
   | exact spec_l12Title.mono _ _
   | exact LeO.none _
   | refine LeO.ite ?_ ?_
   | refine LeO.bind ?_ (fun _ => ?_)
theorem spec_Fixed.calls (k : Nat) (a0 : ByteArray) (a1 : ByteArray) (a2 : Int) (r1 : ByteArray) (r2 : Bool) (w : World) (h : spec_Fixed.f k a0 a1 a2 = some (r1, r2)) :
  Calls Tryd.prog 28 #[.string a0, .string a1, .int .i64 a2] w fun e w' => e = .returned (.tuple #[.string r1, .bool r2]) ∧ Below w.heap.size w w' := by
 have HB := Aside0.mk (Below.refl w.heap.size w)
 have H : (if ((a0.size : Int) % 256) = 0 then ((spec_l1In.f (wrap64 ((a0.size : Int) / 256)) 1 16).bind fun t443 => (if t443 = true then ((spec_l12Title.f k a1).bind fun t444 => (if t444 = true then ((spec_l1In.f a2 0 2).bind fun t445 => (spec_Fixed.j0 k a0 a1 a2 (wrap64 ((a0.size : Int) / 256)) (!t445))) else (spec_Fixed.j0 k a0 a1 a2 (wrap64 ((a0.size : Int) / 256)) true))) else (spec_Fixed.j0 k a0 a1 a2 (wrap64 ((a0.size : Int) / 256)) true))) else (spec_Fixed.j0 k a0 a1 a2 (wrap64 ((a0.size : Int) / 256)) true)) = some (r1, r2) := h
 clear h
 have HC4 := Aside0.mk H
 clear H
 go_enter Tryd.func28, Tryd.ntmps28
 go_upto_region 2 with (fail)
 go_cut [34] (fun v34 wc => ∃ (kq : Nat) (x34_3 : Bool), v34 = .bool x34_3 ∧ Aside0 (spec_Fixed.j0 kq a0 a1 a2 (wrap64 ((a0.size : Int) / 256)) x34_3 = some (r1, r2)) ∧ Aside0 (kq ≤ k) ∧ Aside0 (Below w.heap.size w wc))
 case first =>
  have H := HC4.out
  clear HC4
  by_cases c5 : ((a0.size : Int) % 256) = 0
  ·rw [if_pos c5] at H
   have c5b0 : (((a0.size : Int) % 256) == 0) = true := beq_iff_eq.mpr c5
   have c5b1 : (((a0.size : Int) % 256) != 0) = false := bne_eq_false_iff_eq.mpr c5
   clear c5
   (first | rw [c5b0] | (simp only [i64_w, i32_w]; rw [c5b0]) | skip)
   replace H := Option.bind_eq_some_iff.mp H
   obtain ⟨t443, A60, H⟩ := H
   have A6 := Aside0.mk A60
   clear A60
   by_cases c7 : t443 = true
   ·subst c7
    replace H : ((spec_l12Title.f k a1).bind fun t444 => (if t444 = true then ((spec_l1In.f a2 0 2).bind fun t445 => (spec_Fixed.j0 k a0 a1 a2 (wrap64 ((a0.size : Int) / 256)) (!t445))) else (spec_Fixed.j0 k a0 a1 a2 (wrap64 ((a0.size : Int) / 256)) true))) = some (r1, r2) := by rw [if_pos rfl] at H; exact H
    replace H := Option.bind_eq_some_iff.mp H
    obtain ⟨t444, A80, H⟩ := H
    have A8 := Aside0.mk A80
    clear A80
    by_cases c9 : t444 = true
    ·subst c9
     replace H : ((spec_l1In.f a2 0 2).bind fun t445 => (spec_Fixed.j0 k a0 a1 a2 (wrap64 ((a0.size : Int) / 256)) (!t445))) = some (r1, r2) := by rw [if_pos rfl] at H; exact H
     replace H := Option.bind_eq_some_iff.mp H
     obtain ⟨t445, A100, H⟩ := H
     have A10 := Aside0.mk A100
     clear A100
     have H' := Aside0.mk H
     clear H
     go_wp2_with (first | (go_at_call 50; (with_reducible refine (spec_l1In.calls (wrap64 ((a0.size : Int) / 256)) 1 16 true _ A6.out).mono ?_); rintro e w' ⟨rfl, ⟨nd, rfl⟩⟩) | (go_at_call 30; (with_reducible refine (spec_l12Title.calls k a1 true _ A8.out).mono ?_); rintro e w' ⟨rfl, ⟨nd, rfl⟩⟩) | (go_at_call 50; (with_reducible refine (spec_l1In.calls a2 0 2 t445 _ A10.out).mono ?_); rintro e w' ⟨rfl, ⟨nd, rfl⟩⟩))
     go_meet
     case rel => exact ⟨_, (!t445), q60_, H', ⟨q84_⟩, ⟨q44_⟩⟩
    ·replace c9 := Bool.eq_false_iff.mpr c9
     subst c9
     replace H : (spec_Fixed.j0 k a0 a1 a2 (wrap64 ((a0.size : Int) / 256)) true) = some (r1, r2) := by rw [if_neg (show ¬ (false = true) by decide)] at H; exact H
     have H' := Aside0.mk H
     clear H
     go_wp2_with (first | (go_at_call 50; (with_reducible refine (spec_l1In.calls (wrap64 ((a0.size : Int) / 256)) 1 16 true _ A6.out).mono ?_); rintro e w' ⟨rfl, ⟨nd, rfl⟩⟩) | (go_at_call 30; (with_reducible refine (spec_l12Title.calls k a1 false _ A8.out).mono ?_); rintro e w' ⟨rfl, ⟨nd, rfl⟩⟩))
     go_meet
     case rel => exact ⟨_, (true), q60_, H', ⟨q84_⟩, ⟨q44_⟩⟩
   ·replace c7 := Bool.eq_false_iff.mpr c7
    subst c7
    replace H : (spec_Fixed.j0 k a0 a1 a2 (wrap64 ((a0.size : Int) / 256)) true) = some (r1, r2) := by rw [if_neg (show ¬ (false = true) by decide)] at H; exact H
    have H' := Aside0.mk H
    clear H
    go_wp2_with (first | (go_at_call 50; (with_reducible refine (spec_l1In.calls (wrap64 ((a0.size : Int) / 256)) 1 16 false _ A6.out).mono ?_); rintro e w' ⟨rfl, ⟨nd, rfl⟩⟩))
    go_meet
    case rel => exact ⟨_, (true), q60_, H', ⟨q84_⟩, ⟨q44_⟩⟩
  ·rw [if_neg c5] at H
   have c5b0 : (((a0.size : Int) % 256) == 0) = false := beq_eq_false_iff_ne.mpr c5
   have c5b1 : (((a0.size : Int) % 256) != 0) = true := bne_iff_ne.mpr c5
   (first | rw [c5b0] | (simp only [i64_w, i32_w]; rw [c5b0]) | skip)
   have H' := Aside0.mk H
   clear H
   go_wp2
   go_meet
   case rel => exact ⟨_, (true), q60_, H', ⟨q84_⟩, ⟨q44_⟩⟩
 case rest =>
  clear HC4
  try clear c2
  try clear p2
  try clear c5
  try clear c5b0
  try clear c5b1
  try clear p6
  try clear c7
  try clear c9
  obtain ⟨kq, x34_3, rfl, HA, HJ3, HB⟩ := hcut
  cases kq with
  | zero => exact absurd HA.out (by simp [spec_Fixed.j0])
  | succ kj3 =>
   have H := HA.out
   clear HA
   simp only [spec_Fixed.j0] at H
   by_cases c11 : x34_3 = true
   ·subst c11
    replace H : (some ((⟨#[]⟩ : ByteArray), false)) = some (r1, r2) := by rw [if_pos rfl] at H; exact H
    simp only [Option.some.injEq, Prod.mk.injEq] at H
    obtain ⟨rfl, rfl⟩ := H
    go_wp2
    go_ret2
    exact ⟨q48_, q44_⟩
   ·replace c11 := Bool.eq_false_iff.mpr c11
    subst c11
    replace H : (spec_Fixed.l0 kj3 a0 a1 a2 (wrap64 ((a0.size : Int) / 256)) 2) = some (r1, r2) := by rw [if_neg (show ¬ (false = true) by decide)] at H; exact H
    have H' := Aside0.mk H
    clear H
    go_wp2
    go_loopg [9] kj3 (fun kq v9 w' => ∃ (x9_2 : Int), v9 = .int .i64 x9_2 ∧ Aside0 (spec_Fixed.l0 kq a0 a1 a2 (wrap64 ((a0.size : Int) / 256)) x9_2 = some (r1, r2)) ∧ Aside0 (kq ≤ kj3) ∧ Aside0 (Below w.heap.size w w'))
    case atStart => exact ⟨(2), q60_, H', ⟨Nat.le_refl _⟩, ⟨q44_⟩⟩
    case round =>
     clear H'
     try clear c1
     try clear c2
     try clear p2 p2
     try clear c5
     try clear c5b0
     try clear c5b1
     try clear p6 p6
     try clear c7
     try clear c9
     try clear c11
     obtain ⟨x9_2, rfl, HA, HK2, HB⟩ := hrel
     cases gk with
     | zero => exact absurd HA.out (by simp [spec_Fixed.l0])
     | succ k2 =>
      have H := HA.out
      clear HA
      simp only [spec_Fixed.l0] at H
      by_cases c12 : x9_2 < (wrap64 ((a0.size : Int) / 256))
      ·rw [if_pos c12] at H
       have c12b0 : decide (x9_2 < (wrap64 ((a0.size : Int) / 256))) = true := decide_eq_true c12
       clear c12
       have H' := Aside0.mk H
       clear H
       go_wp2
       go_roundg k2
       case measure => have := HJ3.out; have := HK2.out; omega
       case rel => exact ⟨(wrap64 (2 * x9_2)), q60_, H', ⟨by have := HJ3.out; have := HK2.out; omega⟩, ⟨q44_⟩⟩
      ·rw [if_neg c12] at H
       have c12b0 : decide (x9_2 < (wrap64 ((a0.size : Int) / 256))) = false := decide_eq_false c12
       clear c12
       obtain ⟨ji13, hji13⟩ : ∃ j_ : Int, (wrap64 (x9_2 * 256)) = j_ := ⟨_, rfl⟩
       replace H : (if 0 ≤ (ji13) then (if (ji13 : Int).toNat ≤ 281474976710656 then ((some (List.replicate (ji13 : Int).toNat 0 : List Int)).bind fun y446 => (spec_Fixed.l1 k2 a1 a2 x9_2 (cpy y446 0 (y446.length) (bytesOf a0)) 0)) else (none)) else (none)) = some (r1, r2) := by first | (rw [hji13] at H; exact H) | (simp only [hji13] at H ⊢; exact H)
       have hji13w : (IntKind.i64.wrap (x9_2 * 256)) = ji13 := (i64_w _).trans hji13
       by_cases c14 : 0 ≤ (ji13)
       ·rw [if_pos c14] at H
        have c14b0 := eq_true c14
        have c14b1 : decide (0 ≤ (ji13)) = true := decide_eq_true c14
        clear c14
        by_cases c15 : (ji13 : Int).toNat ≤ 281474976710656
        ·rw [if_pos c15] at H
         have c15b0 := eq_true c15
         have c15b1 : decide ((ji13 : Int).toNat ≤ 281474976710656) = true := decide_eq_true c15
         clear c15
         obtain ⟨y446, hy446⟩ : ∃ y_ : List Int, y_ = (List.replicate (ji13 : Int).toNat 0) := ⟨_, rfl⟩
         replace H : (spec_Fixed.l1 k2 a1 a2 x9_2 (cpy y446 0 (y446.length) (bytesOf a0)) 0) = some (r1, r2) := by first | (rw [hy446]; with_reducible exact H) | (have H2_ := (Option.bind_some _ _).symm.trans H; rw [hy446]; with_reducible exact H2_) | (have H2_ := (Option.bind_some _ _).symm.trans H; with_reducible exact H2_) | with_reducible exact H | (rw [hy446]; exact H) | exact H
         have Ny446 := Aside0.mk hy446
         clear hy446
         obtain ⟨y449, hy449⟩ : ∃ y_ : List Int, y_ = (cpy y446 0 (y446.length) (bytesOf a0)) := ⟨_, rfl⟩
         replace H : (spec_Fixed.l1 k2 a1 a2 x9_2 y449 0) = some (r1, r2) := by first | (rw [hy449]; with_reducible exact H) | (have H2_ := (Option.bind_some _ _).symm.trans H; rw [hy449]; with_reducible exact H2_) | (have H2_ := (Option.bind_some _ _).symm.trans H; with_reducible exact H2_) | with_reducible exact H | (rw [hy449]; exact H) | exact H
         have Ny449 := Aside0.mk hy449
         clear hy449
         have H' := Aside0.mk H
         clear H
         go_wp2_with (first | ((with_reducible refine gate_dst (N := 42) rfl ?_); refine Kd.R_make (Kd.int .u8) _ 5 rfl (N := 42) rfl 28 _ _ rfl ji13 rfl rfl Tryd.underlying28 (.int .u8 0) 1 info5 rfl (by decide) (by omega) 0 (ok := fun _ => True) (okp := fun _ => True) rfl (fun _ hk => hk) trivial (of_decide_eq_true q71_) (Nat.le_trans (Nat.mul_le_mul_right _ (of_decide_eq_true q71_ : ji13.toNat ≤ 281474976710656)) (by omega)) (Below.refl _ _) (Nat.le_refl _) ?_; intro v447 w16 ho17 hb hg_ hnew_; clear hg_ hnew_; (first | rw [← Ny446.out] at ho17 | (simp only [Int.reduceToNat] at ho17; rw [← Ny446.out] at ho17)); have n0_ := Aside0.mk (Kd.R_lower ho17 (below_size q44_)); have n1_ := Aside0.mk (below_step q44_ hb); clear HB; have HO448 := n0_; have HB := n1_; clear n0_ n1_; clear hb ho17; obtain ⟨Ao20, co20, eo20⟩ := Kd.R_slice HO448.out; subst eo20) | ((with_reducible refine gate_builtin (b := .copy) rfl ?_); have e_ := (Kd.R_reads' HO448.out).1; have hm_ : y446.length = (y446.length) := (by omega); have hv_ : cpy y446 0 y446.length (bytesOf a0) = y449 := (by rw [Ny449.out]; first | done | rw [hm_]); refine R_copy (w0 := w) w.heap.size rfl (.tmp 43) _ 28 _ 5 rfl Tryd.underlying28 (by kernel_rfl) (A0 := Ao20) (n := y446.length) (c := co20) (m := y446.length) (lo := 0) rfl rfl ?hA (by (with_reducible repeat (first | apply Kd.R_alloc | apply Kd.R_drewN | apply Kd.R_drew)); exact HO448.out) ?hl q44_ (below_size q44_) ?_; (case hA => exact .inl ⟨rfl, rfl⟩); (case hl => omega); intro w18 ho hb hg; rw [hv_] at ho; clear e_ hm_ hv_; have n0_ := Aside0.mk (ho); have n1_ := Aside0.mk (hb); clear HO448; clear HB; have HO448 := n0_; have HB := n1_; clear n0_ n1_; clear ho hb hg))
         go_loopg [11] k2 (fun kq v11 w' => ∃ (x10_3 : List Int) (x11_3 : Int), v11 = .int .i64 x11_3 ∧ Aside0 (spec_Fixed.l1 kq a1 a2 x9_2 x10_3 x11_3 = some (r1, r2)) ∧ Aside0 (kq ≤ k2) ∧ Aside0 (Kd.R (Kd.int .u8) 5 w' w.heap.size (fun _ => True) (.slice Ao20 y446.length co20) x10_3) ∧ Aside0 (Below w.heap.size w w'))
         case atStart => exact ⟨(y449), (0), q60_, (by first | with_reducible exact H' | (have H2_ := H'; simp only [← hji13] at H2_ ⊢; with_reducible exact H2_) | exact H'), ⟨Nat.le_refl _⟩, ⟨by (with_reducible repeat (first | apply Kd.R_alloc | apply Kd.R_drewN | apply Kd.R_drew)); exact HO448.out⟩, ⟨q44_⟩⟩
         case round =>
          clear H'
          try clear c1
          try clear c2
          try clear p2 p2
          try clear c5
          try clear c5b0
          try clear c5b1
          try clear p6 p6
          try clear c7
          try clear c9
          try clear c11
          try clear c12
          try clear c12b0
          try clear c14
          try clear c14b0
          try clear c14b1
          try clear c15
          try clear c15b0
          try clear c15b1
          obtain ⟨x10_3, x11_3, rfl, HA, HK3, HO_10, HB⟩ := hrel
          have hl10_3 := (Kd.R_reads' HO_10.out).1
          rw [hl10_3] at HO_10
          (try simp only [hl10_3])
          cases gk with
          | zero => exact absurd HA.out (by simp [spec_Fixed.l1])
          | succ k3 =>
           have H := HA.out
           clear HA
           simp only [spec_Fixed.l1] at H
           by_cases c21 : x11_3 < 15
           ·rw [if_pos c21] at H
            have c21b0 : decide (x11_3 < 15) = true := decide_eq_true c21
            clear c21
            obtain ⟨ji22, hji22⟩ : ∃ j_ : Int, (wrap64 (52 + x11_3)) = j_ := ⟨_, rfl⟩
            replace H : (if 0 ≤ (ji22) then (if (ji22) < (x10_3.length : Int) then ((some (x10_3.set ((ji22) : Int).toNat 0 : List Int)).bind fun y450 => (if x11_3 < (a1.size : Int) then (if 0 ≤ x11_3 then (spec_Fixed.l1 k3 a1 a2 x9_2 (y450.set ((ji22) : Int).toNat (bt a1 x11_3)) (wrap64 (x11_3 + 1))) else (none)) else (spec_Fixed.l1 k3 a1 a2 x9_2 y450 (wrap64 (x11_3 + 1))))) else (none)) else (none)) = some (r1, r2) := by first | (rw [hji22] at H; exact H) | (simp only [hji22] at H ⊢; exact H)
            have hji22w : (IntKind.i64.wrap (52 + x11_3)) = ji22 := (i64_w _).trans hji22
            by_cases c23 : 0 ≤ (ji22)
            ·rw [if_pos c23] at H
             have c23b0 : decide (0 ≤ (ji22)) = true := decide_eq_true c23
             clear c23
             by_cases c24 : (ji22) < (x10_3.length : Int)
             ·rw [if_pos c24] at H
              have c24b0 : decide ((ji22) < (x10_3.length : Int)) = true := decide_eq_true c24
              clear c24
              obtain ⟨y450, hy450⟩ : ∃ y_ : List Int, y_ = (x10_3.set ((ji22) : Int).toNat 0) := ⟨_, rfl⟩
              replace H : (if x11_3 < (a1.size : Int) then (if 0 ≤ x11_3 then (spec_Fixed.l1 k3 a1 a2 x9_2 (y450.set ((ji22) : Int).toNat (bt a1 x11_3)) (wrap64 (x11_3 + 1))) else (none)) else (spec_Fixed.l1 k3 a1 a2 x9_2 y450 (wrap64 (x11_3 + 1)))) = some (r1, r2) := by first | (rw [hy450]; with_reducible exact H) | (have H2_ := (Option.bind_some _ _).symm.trans H; rw [hy450]; with_reducible exact H2_) | (have H2_ := (Option.bind_some _ _).symm.trans H; with_reducible exact H2_) | with_reducible exact H | (rw [hy450]; exact H) | exact H
              have Ny450 := Aside0.mk hy450
              clear hy450
              by_cases c26 : x11_3 < (a1.size : Int)
              ·rw [if_pos c26] at H
               have c26b0 : decide (x11_3 < (a1.size : Int)) = true := decide_eq_true c26
               clear c26
               by_cases c27 : 0 ≤ x11_3
               ·rw [if_pos c27] at H
                have c27b0 : decide (0 ≤ x11_3) = true := decide_eq_true c27
                clear c27
                obtain ⟨y451, hy451⟩ : ∃ y_ : List Int, y_ = (y450.set ((ji22) : Int).toNat (bt a1 x11_3)) := ⟨_, rfl⟩
                replace H : (spec_Fixed.l1 k3 a1 a2 x9_2 y451 (wrap64 (x11_3 + 1))) = some (r1, r2) := by first | (rw [hy451]; with_reducible exact H) | (have H2_ := (Option.bind_some _ _).symm.trans H; rw [hy451]; with_reducible exact H2_) | (have H2_ := (Option.bind_some _ _).symm.trans H; with_reducible exact H2_) | with_reducible exact H | (rw [hy451]; exact H) | exact H
                have Ny451 := Aside0.mk hy451
                clear hy451
                have H' := Aside0.mk H
                clear H
                have p25 : 0 ≤ ((ji22) : Int) := of_decide_eq_true q71_
                have q25 : ((ji22) : Int) < ((x10_3.length : Int) : Int) := of_decide_eq_true q71_
                obtain ⟨go25, co25, eo25, gb25, gl25, cl25, HG25⟩ := Kd.R_form HO_10.out (by omega)
                (first | cases eo25 | (injection eo25 with ea_ en_ ec_; (first | subst ea_ | (injection ea_ with ea_; subst ea_)); subst ec_; clear en_))
                have GB25 := Aside0.mk gb25
                have GG25 := Aside0.mk HG25
                clear gb25 gl25 HG25
                obtain ⟨hx25_0, hf25_0⟩ := Kd.R_celln 0 HO_10.out ((ji22) : Int) p25 q25
                replace p25 := eq_true p25
                replace q25 := eq_true q25
                have HP30 := Kd.R_putg HO_10.out ((ji22) : Int) 0
                go_wp2_with (first | ((with_reducible refine gate_store (t := 5) (p := 53) rfl ?_); refine store_event (t := 5) (p := 53) (v := ?vo_w31) (w1 := (wr.setCell ⟨go25, ((ji22) : Int).toNat, none⟩ (.int .u8 0))) ?hg ?ho ?hn ?hr ?_; (case ho => rfl); (case hg => rfl); (case hn => rfl); (case hr => exact q99_); intro w31 hw; have hg : wr.grownBy w31 (some go25) := (by rw [hw]; exact HP30.2); have hp_ : Kd.R (Kd.int .u8) 5 w31 w.heap.size (fun _ => True) (.slice (some ⟨go25, 0, none⟩) x10_3.length co20) y450 := (by rw [hw, Ny450.out]; exact HP30.1); clear HP30; have n0_ := Aside0.mk (hp_); have n1_ := Aside0.mk ((by rw [hw]; exact below_set (HB.out) GB25.out : Below w.heap.size w w31)); clear HO_10; clear HB; have HO_10 := n0_; have HB := n1_; clear n0_ n1_; clear hg hw hp_; have p28 : 0 ≤ (x11_3 : Int) := of_decide_eq_true q71_; have q28 : x11_3 < (a1.size : Int) := of_decide_eq_true q71_; have hx28 := bt_at a1 x11_3; replace p28 := eq_true p28; replace q28 := eq_true q28; have p29 : 0 ≤ ((ji22) : Int) := of_decide_eq_true q71_; have q29 : ((ji22) : Int) < ((x10_3.length : Int) : Int) := of_decide_eq_true q71_; obtain ⟨hx29_0, hf29_0⟩ := Kd.R_celln 0 HO_10.out ((ji22) : Int) p29 q29; replace p29 := eq_true p29; replace q29 := eq_true q29; obtain ⟨hy32_, hz32_⟩ := Kd.R_celln 0 HO_10.out ((ji22) : Int) (of_decide_eq_true q71_) (of_decide_eq_true q71_); have HP32 := Kd.R_putg HO_10.out ((ji22) : Int) (bt a1 x11_3)) | ((with_reducible refine gate_store (t := 5) (p := 64) rfl ?_); refine store_event (t := 5) (p := 64) (v := ?vo_w33) (w1 := (w31.setCell ⟨go25, ((ji22) : Int).toNat, none⟩ (.int .u8 (bt a1 x11_3)))) ?hg ?ho ?hn ?hr ?_; (case ho => rfl); (case hg => rfl); (case hn => rfl); (case hr => exact q99_); intro w33 hw; have hg : w31.grownBy w33 (some go25) := (by rw [hw]; exact HP32.2); have hp_ : Kd.R (Kd.int .u8) 5 w33 w.heap.size (fun _ => True) (.slice (some ⟨go25, 0, none⟩) x10_3.length co20) y451 := (by rw [hw, Ny451.out]; exact HP32.1); clear HP32; have n0_ := Aside0.mk (hp_); have n1_ := Aside0.mk ((by rw [hw]; exact below_set (HB.out) GB25.out : Below w.heap.size w w33)); clear HO_10; clear HB; have HO_10 := n0_; have HB := n1_; clear n0_ n1_; clear hg hw hp_))
                (try simp only [← hl10_3])
                go_roundg k3
                case measure => have := HJ3.out; have := HK2.out; have := HK3.out; omega
                case rel => exact ⟨(y451), (wrap64 (x11_3 + 1)), q60_, q47_, ⟨by have := HJ3.out; have := HK2.out; have := HK3.out; omega⟩, ⟨q45_⟩, ⟨q44_⟩⟩
               ·rw [if_neg c27] at H
                exact absurd H (by simp)
              ·rw [if_neg c26] at H
               have c26b0 : decide (x11_3 < (a1.size : Int)) = false := decide_eq_false c26
               clear c26
               have H' := Aside0.mk H
               clear H
               have p25 : 0 ≤ ((ji22) : Int) := of_decide_eq_true q71_
               have q25 : ((ji22) : Int) < ((x10_3.length : Int) : Int) := of_decide_eq_true q71_
               obtain ⟨go25, co25, eo25, gb25, gl25, cl25, HG25⟩ := Kd.R_form HO_10.out (by omega)
               (first | cases eo25 | (injection eo25 with ea_ en_ ec_; (first | subst ea_ | (injection ea_ with ea_; subst ea_)); subst ec_; clear en_))
               have GB25 := Aside0.mk gb25
               have GG25 := Aside0.mk HG25
               clear gb25 gl25 HG25
               obtain ⟨hx25_0, hf25_0⟩ := Kd.R_celln 0 HO_10.out ((ji22) : Int) p25 q25
               replace p25 := eq_true p25
               replace q25 := eq_true q25
               have HP34 := Kd.R_putg HO_10.out ((ji22) : Int) 0
               go_wp2_with (first | ((with_reducible refine gate_store (t := 5) (p := 53) rfl ?_); refine store_event (t := 5) (p := 53) (v := ?vo_w35) (w1 := (wr.setCell ⟨go25, ((ji22) : Int).toNat, none⟩ (.int .u8 0))) ?hg ?ho ?hn ?hr ?_; (case ho => rfl); (case hg => rfl); (case hn => rfl); (case hr => exact q99_); intro w35 hw; have hg : wr.grownBy w35 (some go25) := (by rw [hw]; exact HP34.2); have hp_ : Kd.R (Kd.int .u8) 5 w35 w.heap.size (fun _ => True) (.slice (some ⟨go25, 0, none⟩) x10_3.length co20) y450 := (by rw [hw, Ny450.out]; exact HP34.1); clear HP34; have n0_ := Aside0.mk (hp_); have n1_ := Aside0.mk ((by rw [hw]; exact below_set (HB.out) GB25.out : Below w.heap.size w w35)); clear HO_10; clear HB; have HO_10 := n0_; have HB := n1_; clear n0_ n1_; clear hg hw hp_))
               (try simp only [← hl10_3])
               go_roundg k3
               case measure => have := HJ3.out; have := HK2.out; have := HK3.out; omega
               case rel => exact ⟨(y450), (wrap64 (x11_3 + 1)), q60_, q47_, ⟨by have := HJ3.out; have := HK2.out; have := HK3.out; omega⟩, ⟨q45_⟩, ⟨q44_⟩⟩
             ·rw [if_neg c24] at H
              exact absurd H (by simp)
            ·rw [if_neg c23] at H
             exact absurd H (by simp)
           ·rw [if_neg c21] at H
            have c21b0 : decide (x11_3 < 15) = false := decide_eq_false c21
            clear c21
            by_cases c36 : 71 < (x10_3.length : Int)
            ·rw [if_pos c36] at H
             have c36b0 : decide (71 < (x10_3.length : Int)) = true := decide_eq_true c36
             have c36b1 : decide (71 < x10_3.length) = true := decide_eq_true (by omega)
             clear c36
             obtain ⟨y452, hy452⟩ : ∃ y_ : List Int, y_ = (x10_3.set (71 : Int).toNat ((a2) % 256)) := ⟨_, rfl⟩
             replace H : ((spec_l12Code.f k3 x9_2).bind fun t453 => (if 72 < (x10_3.length : Int) then ((some (y452.set (72 : Int).toNat ((t453) % 256) : List Int)).bind fun y454 => ((spec_HeaderSum.f k3 (strOfNums y454)).bind fun t455 => (if 77 < (x10_3.length : Int) then ((some (y454.set (77 : Int).toNat ((t455) % 256) : List Int)).bind fun y456 => ((spec_WholeSum.f k3 (strOfNums y456)).bind fun t457 => (if 78 < (x10_3.length : Int) then (if 79 < (x10_3.length : Int) then (some (strOfNums ((y456.set (78 : Int).toNat ((t457 / 256) % 256)).set (79 : Int).toNat ((t457) % 256)), true)) else (none)) else (none)))) else (none)))) else (none))) = some (r1, r2) := by first | (rw [hy452]; with_reducible exact H) | (have H2_ := (Option.bind_some _ _).symm.trans H; rw [hy452]; with_reducible exact H2_) | (have H2_ := (Option.bind_some _ _).symm.trans H; with_reducible exact H2_) | with_reducible exact H | (rw [hy452]; exact H) | exact H
             have Ny452 := Aside0.mk hy452
             clear hy452
             replace H := Option.bind_eq_some_iff.mp H
             obtain ⟨t453, A380, H⟩ := H
             have A38 := Aside0.mk A380
             clear A380
             by_cases c39 : 72 < (x10_3.length : Int)
             ·rw [if_pos c39] at H
              have c39b0 : decide (72 < (x10_3.length : Int)) = true := decide_eq_true c39
              have c39b1 : decide (72 < x10_3.length) = true := decide_eq_true (by omega)
              clear c39
              obtain ⟨y454, hy454⟩ : ∃ y_ : List Int, y_ = (y452.set (72 : Int).toNat ((t453) % 256)) := ⟨_, rfl⟩
              replace H : ((spec_HeaderSum.f k3 (strOfNums y454)).bind fun t455 => (if 77 < (x10_3.length : Int) then ((some (y454.set (77 : Int).toNat ((t455) % 256) : List Int)).bind fun y456 => ((spec_WholeSum.f k3 (strOfNums y456)).bind fun t457 => (if 78 < (x10_3.length : Int) then (if 79 < (x10_3.length : Int) then (some (strOfNums ((y456.set (78 : Int).toNat ((t457 / 256) % 256)).set (79 : Int).toNat ((t457) % 256)), true)) else (none)) else (none)))) else (none))) = some (r1, r2) := by first | (rw [hy454]; with_reducible exact H) | (have H2_ := (Option.bind_some _ _).symm.trans H; rw [hy454]; with_reducible exact H2_) | (have H2_ := (Option.bind_some _ _).symm.trans H; with_reducible exact H2_) | with_reducible exact H | (rw [hy454]; exact H) | exact H
              have Ny454 := Aside0.mk hy454
              clear hy454
              replace H := Option.bind_eq_some_iff.mp H
              obtain ⟨t455, A410, H⟩ := H
              have A41 := Aside0.mk A410
              clear A410
              by_cases c42 : 77 < (x10_3.length : Int)
              ·rw [if_pos c42] at H
               have c42b0 : decide (77 < (x10_3.length : Int)) = true := decide_eq_true c42
               have c42b1 : decide (77 < x10_3.length) = true := decide_eq_true (by omega)
               clear c42
               obtain ⟨y456, hy456⟩ : ∃ y_ : List Int, y_ = (y454.set (77 : Int).toNat ((t455) % 256)) := ⟨_, rfl⟩
               replace H : ((spec_WholeSum.f k3 (strOfNums y456)).bind fun t457 => (if 78 < (x10_3.length : Int) then (if 79 < (x10_3.length : Int) then (some (strOfNums ((y456.set (78 : Int).toNat ((t457 / 256) % 256)).set (79 : Int).toNat ((t457) % 256)), true)) else (none)) else (none))) = some (r1, r2) := by first | (rw [hy456]; with_reducible exact H) | (have H2_ := (Option.bind_some _ _).symm.trans H; rw [hy456]; with_reducible exact H2_) | (have H2_ := (Option.bind_some _ _).symm.trans H; with_reducible exact H2_) | with_reducible exact H | (rw [hy456]; exact H) | exact H
               have Ny456 := Aside0.mk hy456
               clear hy456
               replace H := Option.bind_eq_some_iff.mp H
               obtain ⟨t457, A440, H⟩ := H
               have A44 := Aside0.mk A440
               clear A440
               by_cases c45 : 78 < (x10_3.length : Int)
               ·rw [if_pos c45] at H
                have c45b0 : decide (78 < (x10_3.length : Int)) = true := decide_eq_true c45
                have c45b1 : decide (78 < x10_3.length) = true := decide_eq_true (by omega)
                clear c45
                obtain ⟨y458, hy458⟩ : ∃ y_ : List Int, y_ = (y456.set (78 : Int).toNat ((t457 / 256) % 256)) := ⟨_, rfl⟩
                replace H : (if 79 < (x10_3.length : Int) then (some (strOfNums (y458.set (79 : Int).toNat ((t457) % 256)), true)) else (none)) = some (r1, r2) := by first | (rw [hy458]; with_reducible exact H) | (have H2_ := (Option.bind_some _ _).symm.trans H; rw [hy458]; with_reducible exact H2_) | (have H2_ := (Option.bind_some _ _).symm.trans H; with_reducible exact H2_) | with_reducible exact H | (rw [hy458]; exact H) | exact H
                have Ny458 := Aside0.mk hy458
                clear hy458
                by_cases c47 : 79 < (x10_3.length : Int)
                ·rw [if_pos c47] at H
                 have c47b0 : decide (79 < (x10_3.length : Int)) = true := decide_eq_true c47
                 have c47b1 : decide (79 < x10_3.length) = true := decide_eq_true (by omega)
                 clear c47
                 obtain ⟨y459, hy459⟩ : ∃ y_ : List Int, y_ = (y458.set (79 : Int).toNat ((t457) % 256)) := ⟨_, rfl⟩
                 replace H : (some (strOfNums y459, true)) = some (r1, r2) := by first | (rw [hy459]; with_reducible exact H) | (have H2_ := (Option.bind_some _ _).symm.trans H; rw [hy459]; with_reducible exact H2_) | (have H2_ := (Option.bind_some _ _).symm.trans H; with_reducible exact H2_) | with_reducible exact H | (rw [hy459]; exact H) | exact H
                 have Ny459 := Aside0.mk hy459
                 clear hy459
                 simp only [Option.some.injEq, Prod.mk.injEq] at H
                 obtain ⟨rfl, rfl⟩ := H
                 have p37 : 0 ≤ (71 : Int) := (by omega)
                 have q37 : (71 : Int) < ((x10_3.length : Int) : Int) := of_decide_eq_true q71_
                 have qi37 : (71 < x10_3.length) = True := eq_true (by omega)
                 obtain ⟨go37, co37, eo37, gb37, gl37, cl37, HG37⟩ := Kd.R_form HO_10.out (by omega)
                 (first | cases eo37 | (injection eo37 with ea_ en_ ec_; (first | subst ea_ | (injection ea_ with ea_; subst ea_)); subst ec_; clear en_))
                 have GB37 := Aside0.mk gb37
                 have GG37 := Aside0.mk HG37
                 clear gb37 gl37 HG37
                 obtain ⟨hx37_0, hf37_0⟩ := Kd.R_celln 0 HO_10.out (71 : Int) p37 q37
                 (try rw [show ((71 : Int)).toNat = 71 from rfl] at hx37_0)
                 (try simp only [Nat.reduceMul, Nat.zero_mul, Nat.zero_add, Nat.reduceAdd] at hx37_0)
                 (try rw [show ((71 : Int)).toNat = 71 from rfl] at hf37_0)
                 (try simp only [Nat.reduceMul, Nat.zero_mul, Nat.zero_add, Nat.reduceAdd] at hf37_0)
                 replace p37 := eq_true p37
                 replace q37 := eq_true q37
                 have HP49 := Kd.R_putg HO_10.out (71 : Int) ((a2) % 256)
                 go_wp2_with (first | ((with_reducible refine gate_store (t := 5) (p := 68) rfl ?_); refine store_event (t := 5) (p := 68) (v := ?vo_w50) (w1 := (wr.setCell ⟨go37, (71 : Int).toNat, none⟩ (.int .u8 ((a2) % 256)))) ?hg ?ho ?hn ?hr ?_; (case ho => rfl); (case hg => rfl); (case hn => rfl); (case hr => exact q99_); intro w50 hw; have hg : wr.grownBy w50 (some go37) := (by rw [hw]; exact HP49.2); have hp_ : Kd.R (Kd.int .u8) 5 w50 w.heap.size (fun _ => True) (.slice (some ⟨go37, 0, none⟩) x10_3.length co20) y452 := (by rw [hw, Ny452.out]; exact HP49.1); clear HP49; have n0_ := Aside0.mk (hp_); have n1_ := Aside0.mk ((q82_ : Below w.heap.size w w50)); clear HO_10; clear HB; have HO_10 := n0_; have HB := n1_; clear n0_ n1_; clear hg hw hp_) | ((with_reducible refine gate_callee (f := 31) rfl ?_); refine goesL_ (some 71) rfl rfl Tryd.func31 (by kernel_rfl) rfl #[.int .i64 x9_2] rfl q43_ ?_; (with_reducible refine (spec_l12Code.calls k3 x9_2 t453 _ A38.out).mono ?_); rintro e w' ⟨rfl, ⟨nd, rfl⟩⟩; refine ⟨_, rfl, ?_⟩; (try (rw [drewN_self w50]; generalize hq_ : World.drewN w50 _ = w50; have n0_ : Aside0 (Kd.R (Kd.int .u8) 5 w50 w.heap.size (fun _ => True) (.slice (some ⟨go37, 0, none⟩) x10_3.length co20) y452) := ⟨q46_⟩; have n1_ : Aside0 (Below w.heap.size w w50) := ⟨q39_⟩; clear HO_10 HB hq_; have HO_10 := n0_; have HB := n1_; clear n0_ n1_)); have p40 : 0 ≤ (72 : Int) := (by omega); have q40 : (72 : Int) < ((x10_3.length : Int) : Int) := of_decide_eq_true q71_; have qi40 : (72 < x10_3.length) = True := eq_true (by omega); obtain ⟨hx40_0, hf40_0⟩ := Kd.R_celln 0 HO_10.out (72 : Int) p40 q40; (try rw [show ((72 : Int)).toNat = 72 from rfl] at hx40_0); (try simp only [Nat.reduceMul, Nat.zero_mul, Nat.zero_add, Nat.reduceAdd] at hx40_0); (try rw [show ((72 : Int)).toNat = 72 from rfl] at hf40_0); (try simp only [Nat.reduceMul, Nat.zero_mul, Nat.zero_add, Nat.reduceAdd] at hf40_0); replace p40 := eq_true p40; replace q40 := eq_true q40; obtain ⟨hy51_, hz51_⟩ := Kd.R_celln 0 HO_10.out (72 : Int) (by omega) (of_decide_eq_true q71_); (try simp only [Int.reduceToNat, Int.toNat_zero, Int.toNat_ofNat, Nat.reduceMul, Nat.zero_mul, Nat.zero_add] at hy51_ hz51_); (try rw [show ((72 : Int)).toNat = 72 from rfl] at hy51_); (try rw [show ((72 : Int)).toNat = 72 from rfl] at hz51_); have HP51 := Kd.R_putg HO_10.out (72 : Int) ((t453) % 256)) | ((with_reducible refine gate_store (t := 5) (p := 73) rfl ?_); refine store_event (t := 5) (p := 73) (v := ?vo_w52) (w1 := (w50.setCell ⟨go37, (72 : Int).toNat, none⟩ (.int .u8 ((t453) % 256)))) ?hg ?ho ?hn ?hr ?_; (case ho => rfl); (case hg => rfl); (case hn => rfl); (case hr => exact q99_); intro w52 hw; have hg : w50.grownBy w52 (some go37) := (by rw [hw]; exact HP51.2); have hp_ : Kd.R (Kd.int .u8) 5 w52 w.heap.size (fun _ => True) (.slice (some ⟨go37, 0, none⟩) x10_3.length co20) y454 := (by rw [hw, Ny454.out]; exact HP51.1); clear HP51; have n0_ := Aside0.mk (hp_); have n1_ := Aside0.mk ((q82_ : Below w.heap.size w w52)); clear HO_10; clear HB; have HO_10 := n0_; have HB := n1_; clear n0_ n1_; clear hg hw hp_; have hcv53 := own_string (P := Tryd.prog) Tryd.underlying28 Tryd.underlying5 Tryd.underlying9 (Kd.own_of_R HO_10.out); have hcvq53 := fun m_ : Nat => own_string (P := Tryd.prog) Tryd.underlying28 Tryd.underlying5 Tryd.underlying9 (Kd.own_of_R (Kd.R_drewN HO_10.out m_))) | ((with_reducible refine gate_callee (f := 19) rfl ?_); refine goesL_ (some 77) rfl rfl Tryd.func19 (by kernel_rfl) rfl #[.string (strOfNums y454)] rfl q43_ ?_; (with_reducible refine (spec_HeaderSum.calls k3 (strOfNums y454) t455 _ A41.out).mono ?_); rintro e w' ⟨rfl, ⟨nd, rfl⟩⟩; refine ⟨_, rfl, ?_⟩; (try (rw [drewN_self w52]; generalize hq_ : World.drewN w52 _ = w52; have n0_ : Aside0 (Kd.R (Kd.int .u8) 5 w52 w.heap.size (fun _ => True) (.slice (some ⟨go37, 0, none⟩) x10_3.length co20) y454) := ⟨q46_⟩; have n1_ : Aside0 (Below w.heap.size w w52) := ⟨q39_⟩; clear HO_10 HB hq_; have HO_10 := n0_; have HB := n1_; clear n0_ n1_)); have p43 : 0 ≤ (77 : Int) := (by omega); have q43 : (77 : Int) < ((x10_3.length : Int) : Int) := of_decide_eq_true q71_; have qi43 : (77 < x10_3.length) = True := eq_true (by omega); obtain ⟨hx43_0, hf43_0⟩ := Kd.R_celln 0 HO_10.out (77 : Int) p43 q43; (try rw [show ((77 : Int)).toNat = 77 from rfl] at hx43_0); (try simp only [Nat.reduceMul, Nat.zero_mul, Nat.zero_add, Nat.reduceAdd] at hx43_0); (try rw [show ((77 : Int)).toNat = 77 from rfl] at hf43_0); (try simp only [Nat.reduceMul, Nat.zero_mul, Nat.zero_add, Nat.reduceAdd] at hf43_0); replace p43 := eq_true p43; replace q43 := eq_true q43; obtain ⟨hy54_, hz54_⟩ := Kd.R_celln 0 HO_10.out (77 : Int) (by omega) (of_decide_eq_true q71_); (try simp only [Int.reduceToNat, Int.toNat_zero, Int.toNat_ofNat, Nat.reduceMul, Nat.zero_mul, Nat.zero_add] at hy54_ hz54_); (try rw [show ((77 : Int)).toNat = 77 from rfl] at hy54_); (try rw [show ((77 : Int)).toNat = 77 from rfl] at hz54_); have HP54 := Kd.R_putg HO_10.out (77 : Int) ((t455) % 256)) | ((with_reducible refine gate_store (t := 5) (p := 79) rfl ?_); refine store_event (t := 5) (p := 79) (v := ?vo_w55) (w1 := (w52.setCell ⟨go37, (77 : Int).toNat, none⟩ (.int .u8 ((t455) % 256)))) ?hg ?ho ?hn ?hr ?_; (case ho => rfl); (case hg => rfl); (case hn => rfl); (case hr => exact q99_); intro w55 hw; have hg : w52.grownBy w55 (some go37) := (by rw [hw]; exact HP54.2); have hp_ : Kd.R (Kd.int .u8) 5 w55 w.heap.size (fun _ => True) (.slice (some ⟨go37, 0, none⟩) x10_3.length co20) y456 := (by rw [hw, Ny456.out]; exact HP54.1); clear HP54; have n0_ := Aside0.mk (hp_); have n1_ := Aside0.mk ((q82_ : Below w.heap.size w w55)); clear HO_10; clear HB; have HO_10 := n0_; have HB := n1_; clear n0_ n1_; clear hg hw hp_; have hcv56 := own_string (P := Tryd.prog) Tryd.underlying28 Tryd.underlying5 Tryd.underlying9 (Kd.own_of_R HO_10.out); have hcvq56 := fun m_ : Nat => own_string (P := Tryd.prog) Tryd.underlying28 Tryd.underlying5 Tryd.underlying9 (Kd.own_of_R (Kd.R_drewN HO_10.out m_))) | ((with_reducible refine gate_callee (f := 21) rfl ?_); refine goesL_ (some 82) rfl rfl Tryd.func21 (by kernel_rfl) rfl #[.string (strOfNums y456)] rfl q43_ ?_; (with_reducible refine (spec_WholeSum.calls k3 (strOfNums y456) t457 _ A44.out).mono ?_); rintro e w' ⟨rfl, ⟨nd, rfl⟩⟩; refine ⟨_, rfl, ?_⟩; (try (rw [drewN_self w55]; generalize hq_ : World.drewN w55 _ = w55; have n0_ : Aside0 (Kd.R (Kd.int .u8) 5 w55 w.heap.size (fun _ => True) (.slice (some ⟨go37, 0, none⟩) x10_3.length co20) y456) := ⟨q46_⟩; have n1_ : Aside0 (Below w.heap.size w w55) := ⟨q39_⟩; clear HO_10 HB hq_; have HO_10 := n0_; have HB := n1_; clear n0_ n1_)); have p46 : 0 ≤ (78 : Int) := (by omega); have q46 : (78 : Int) < ((x10_3.length : Int) : Int) := of_decide_eq_true q71_; have qi46 : (78 < x10_3.length) = True := eq_true (by omega); obtain ⟨hx46_0, hf46_0⟩ := Kd.R_celln 0 HO_10.out (78 : Int) p46 q46; (try rw [show ((78 : Int)).toNat = 78 from rfl] at hx46_0); (try simp only [Nat.reduceMul, Nat.zero_mul, Nat.zero_add, Nat.reduceAdd] at hx46_0); (try rw [show ((78 : Int)).toNat = 78 from rfl] at hf46_0); (try simp only [Nat.reduceMul, Nat.zero_mul, Nat.zero_add, Nat.reduceAdd] at hf46_0); replace p46 := eq_true p46; replace q46 := eq_true q46; obtain ⟨hy57_, hz57_⟩ := Kd.R_celln 0 HO_10.out (78 : Int) (by omega) (of_decide_eq_true q71_); (try simp only [Int.reduceToNat, Int.toNat_zero, Int.toNat_ofNat, Nat.reduceMul, Nat.zero_mul, Nat.zero_add] at hy57_ hz57_); (try rw [show ((78 : Int)).toNat = 78 from rfl] at hy57_); (try rw [show ((78 : Int)).toNat = 78 from rfl] at hz57_); have HP57 := Kd.R_putg HO_10.out (78 : Int) ((t457 / 256) % 256)) | ((with_reducible refine gate_store (t := 5) (p := 87) rfl ?_); refine store_event (t := 5) (p := 87) (v := ?vo_w58) (w1 := (w55.setCell ⟨go37, (78 : Int).toNat, none⟩ (.int .u8 ((t457 / 256) % 256)))) ?hg ?ho ?hn ?hr ?_; (case ho => rfl); (case hg => rfl); (case hn => rfl); (case hr => exact q99_); intro w58 hw; have hg : w55.grownBy w58 (some go37) := (by rw [hw]; exact HP57.2); have hp_ : Kd.R (Kd.int .u8) 5 w58 w.heap.size (fun _ => True) (.slice (some ⟨go37, 0, none⟩) x10_3.length co20) y458 := (by rw [hw, Ny458.out]; exact HP57.1); clear HP57; have n0_ := Aside0.mk (hp_); have n1_ := Aside0.mk ((q82_ : Below w.heap.size w w58)); clear HO_10; clear HB; have HO_10 := n0_; have HB := n1_; clear n0_ n1_; clear hg hw hp_; have p48 : 0 ≤ (79 : Int) := (by omega); have q48 : (79 : Int) < ((x10_3.length : Int) : Int) := of_decide_eq_true q71_; have qi48 : (79 < x10_3.length) = True := eq_true (by omega); obtain ⟨hx48_0, hf48_0⟩ := Kd.R_celln 0 HO_10.out (79 : Int) p48 q48; (try rw [show ((79 : Int)).toNat = 79 from rfl] at hx48_0); (try simp only [Nat.reduceMul, Nat.zero_mul, Nat.zero_add, Nat.reduceAdd] at hx48_0); (try rw [show ((79 : Int)).toNat = 79 from rfl] at hf48_0); (try simp only [Nat.reduceMul, Nat.zero_mul, Nat.zero_add, Nat.reduceAdd] at hf48_0); replace p48 := eq_true p48; replace q48 := eq_true q48; obtain ⟨hy59_, hz59_⟩ := Kd.R_celln 0 HO_10.out (79 : Int) (by omega) (of_decide_eq_true q71_); (try simp only [Int.reduceToNat, Int.toNat_zero, Int.toNat_ofNat, Nat.reduceMul, Nat.zero_mul, Nat.zero_add] at hy59_ hz59_); (try rw [show ((79 : Int)).toNat = 79 from rfl] at hy59_); (try rw [show ((79 : Int)).toNat = 79 from rfl] at hz59_); have HP59 := Kd.R_putg HO_10.out (79 : Int) ((t457) % 256)) | ((with_reducible refine gate_store (t := 5) (p := 91) rfl ?_); refine store_event (t := 5) (p := 91) (v := ?vo_w60) (w1 := (w58.setCell ⟨go37, (79 : Int).toNat, none⟩ (.int .u8 ((t457) % 256)))) ?hg ?ho ?hn ?hr ?_; (case ho => rfl); (case hg => rfl); (case hn => rfl); (case hr => exact q99_); intro w60 hw; have hg : w58.grownBy w60 (some go37) := (by rw [hw]; exact HP59.2); have hp_ : Kd.R (Kd.int .u8) 5 w60 w.heap.size (fun _ => True) (.slice (some ⟨go37, 0, none⟩) x10_3.length co20) y459 := (by rw [hw, Ny459.out]; exact HP59.1); clear HP59; have n0_ := Aside0.mk (hp_); have n1_ := Aside0.mk ((q82_ : Below w.heap.size w w60)); clear HO_10; clear HB; have HO_10 := n0_; have HB := n1_; clear n0_ n1_; clear hg hw hp_; have hcv61 := own_string (P := Tryd.prog) Tryd.underlying28 Tryd.underlying5 Tryd.underlying9 (Kd.own_of_R HO_10.out); have hcvq61 := fun m_ : Nat => own_string (P := Tryd.prog) Tryd.underlying28 Tryd.underlying5 Tryd.underlying9 (Kd.own_of_R (Kd.R_drewN HO_10.out m_))))
                 go_ret2
                 exact ⟨q23_, q44_⟩
                ·rw [if_neg c47] at H
                 exact absurd H (by simp)
               ·rw [if_neg c45] at H
                exact absurd H (by simp)
              ·rw [if_neg c42] at H
               exact absurd H (by simp)
             ·rw [if_neg c39] at H
              exact absurd H (by simp)
            ·rw [if_neg c36] at H
             exact absurd H (by simp)
        ·rw [if_neg c15] at H
         exact absurd H (by simp)
       ·rw [if_neg c14] at H
        exact absurd H (by simp)
end Go.Proofs.YtcohcndliaaacaaDoor.QFnFixed
