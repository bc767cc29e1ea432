/- The machine's side of a law, written by a program of this session for this claim. -/
import Derived.Test.YtcohcndliaaacaaDoorYQq
import Derived.Test.YtcohcndliaaacaaDoorYQFnHeadersx0
import Derived.Test.YtcohcndliaaacaaDoorYQFnHeadersx1
namespace Go.Proofs.YtcohcndliaaacaaDoor.QFnHeaders
open Go.Proofs.YtcohcndliaaacaaDoor.Qq
open Go.RowKit Go.Proofs.YtcohcndliaaacaaDoor.LibX Go.Proofs.YtcohcndliaaacaaDoor.LibE Go.Proofs.YtcohcndliaaacaaDoorW.PrintWords Go.Proofs.YtcohcndliaaacaaDoorW.PrintLast Go.Proofs.YtcohcndliaaacaaDoorW.PrintMore
attribute [local go_sem] max2_int min2_int max_two min_two max_three min_three max_four min_four   -- for this text's walks alone
set_option maxHeartbeats 8000000
set_option maxRecDepth 100000
set_option linter.unusedVariables false
set_option linter.unusedSimpArgs false
def laws_big.f (l0 : List Int) : Option (Bool) := some (decide ((l0.length : Int) > 1048576))
theorem laws_big.calls (A0 : Option Addr) (c0 : Nat) (l0 : List Int) (r : Bool) (w : World) (hr0 : Kd.C (Kd.int .u8) w A0 l0.length l0) (hc0 : l0.length ≤ c0) (h : laws_big.f l0 = some r) :
  Calls Tryd.prog 11 #[.slice A0 l0.length c0] w fun e w' => e = .returned (.bool r) ∧ Drawn0 w w' := by
 have HR0 := Aside0.mk hr0
 have HC0 := Aside0.mk hc0
 clear hr0 hc0
 have H : (some (decide ((l0.length : Int) > 1048576))) = some r := h
 clear h
 obtain rfl := Option.some.inj H
 go_enter Tryd.func11, Tryd.ntmps11
 go_wp2
 go_ret
 exact ⟨q74_, q84_⟩
mutual
def spec_Fixed.j0 : Nat → ByteArray → ByteArray → Int → Int → Bool → Option (ByteArray × Bool)
 | 0, _, _, _, _, _ => none
 | k + 1, x0, x1, x2, x8, x34 => if x34 = true then (some ((⟨#[]⟩ : ByteArray), false)) else (spec_Fixed.l0 k x0 x1 x2 x8 2)
def spec_Fixed.l0 : Nat → ByteArray → ByteArray → Int → Int → Int → Option (ByteArray × Bool)
 | 0, _, _, _, _, _ => none
 | k + 1, x0, x1, x2, x8, x9 => if x9 < x8 then (spec_Fixed.l0 k x0 x1 x2 x8 (wrap64 (2 * x9))) else (if 0 ≤ (wrap64 (x9 * 256)) then (if (wrap64 (x9 * 256) : Int).toNat ≤ 281474976710656 then ((some (List.replicate (wrap64 (x9 * 256) : Int).toNat 0 : List Int)).bind fun y129 => (spec_Fixed.l1 k x1 x2 x9 (cpy y129 0 (y129.length) (bytesOf x0)) 0)) else (none)) else (none))
def spec_Fixed.l1 : Nat → ByteArray → Int → Int → List Int → Int → Option (ByteArray × Bool)
 | 0, _, _, _, _, _ => none
 | k + 1, x1, x2, x9, x10, x11 => if x11 < 15 then (if 0 ≤ (wrap64 (52 + x11)) then (if (wrap64 (52 + x11)) < (x10.length : Int) then ((some (x10.set ((wrap64 (52 + x11)) : Int).toNat 0 : List Int)).bind fun y133 => (if x11 < (x1.size : Int) then (if 0 ≤ x11 then (spec_Fixed.l1 k x1 x2 x9 (y133.set ((wrap64 (52 + x11)) : Int).toNat (bt x1 x11)) (wrap64 (x11 + 1))) else (none)) else (spec_Fixed.l1 k x1 x2 x9 y133 (wrap64 (x11 + 1))))) else (none)) else (none)) else (if 71 < (x10.length : Int) then ((spec_l12Code.f k x9).bind fun t136 => (if 72 < (x10.length : Int) then ((some ((x10.set (71 : Int).toNat ((x2) % 256)).set (72 : Int).toNat ((t136) % 256) : List Int)).bind fun y137 => ((spec_HeaderSum.f k (strOfNums y137)).bind fun t138 => (if 77 < (x10.length : Int) then ((some (y137.set (77 : Int).toNat ((t138) % 256) : List Int)).bind fun y139 => ((spec_WholeSum.f k (strOfNums y139)).bind fun t140 => (if 78 < (x10.length : Int) then (if 79 < (x10.length : Int) then (some (strOfNums ((y139.set (78 : Int).toNat ((t140 / 256) % 256)).set (79 : Int).toNat ((t140) % 256)), true)) else (none)) else (none)))) else (none)))) else (none))) else (none))
end
def spec_Fixed.f (k : Nat) (a0 : ByteArray) (a1 : ByteArray) (a2 : Int) : Option (ByteArray × Bool) := if ((a0.size : Int) % 256) = 0 then ((spec_l1In.f (wrap64 ((a0.size : Int) / 256)) 1 16).bind fun t126 => (if t126 = true then ((spec_l12Title.f k a1).bind fun t127 => (if t127 = true then ((spec_l1In.f a2 0 2).bind fun t128 => (spec_Fixed.j0 k a0 a1 a2 (wrap64 ((a0.size : Int) / 256)) (!t128))) else (spec_Fixed.j0 k a0 a1 a2 (wrap64 ((a0.size : Int) / 256)) true))) else (spec_Fixed.j0 k a0 a1 a2 (wrap64 ((a0.size : Int) / 256)) true))) else (spec_Fixed.j0 k a0 a1 a2 (wrap64 ((a0.size : Int) / 256)) true)
theorem spec_Fixed.mono_l : ∀ k, (∀ y0 y1 y2 y3 y4, LeO (spec_Fixed.j0 k y0 y1 y2 y3 y4) (spec_Fixed.j0 (k + 1) y0 y1 y2 y3 y4)) ∧ (∀ y0 y1 y2 y3 y4, LeO (spec_Fixed.l0 k y0 y1 y2 y3 y4) (spec_Fixed.l0 (k + 1) y0 y1 y2 y3 y4)) ∧ (∀ y0 y1 y2 y3 y4, LeO (spec_Fixed.l1 k y0 y1 y2 y3 y4) (spec_Fixed.l1 (k + 1) y0 y1 y2 y3 y4))
 | 0 => ⟨fun _ _ _ _ _ r h => by simp [spec_Fixed.j0] at h, fun _ _ _ _ _ r h => by simp [spec_Fixed.l0] at h, fun _ _ _ _ _ r h => by simp [spec_Fixed.l1] at h⟩
 | k + 1 => by
  obtain ⟨ih0, ih1, ih2⟩ := spec_Fixed.mono_l k
  refine ⟨?_, ?_, ?_⟩
  ·intro y0 y1 y2 y3 y4
   unfold spec_Fixed.j0
   repeat' first
   | (with_reducible first | exact ih0 _ _ _ _ _ | exact ih1 _ _ _ _ _ | exact ih2 _ _ _ _ _ | exact spec_HeaderSum.mono _ _ | exact spec_WholeSum.mono _ _ | exact spec_l12Code.mono _ _ | exact spec_l12Title.mono _ _ | exact LeO.refl _ | exact LeO.none _ | refine LeO.ite ?_ ?_ | refine LeO.bind ?_ (fun _ => ?_))
   | exact ih0 _ _ _ _ _
   | exact ih1 _ _ _ _ _
   | exact ih2 _ _ _ _ _
   | exact spec_HeaderSum.mono _ _
   | exact spec_WholeSum.mono _ _
   | exact spec_l12Code.mono _ _
   | exact spec_l12Title.mono _ _
   | exact LeO.none _
   | refine LeO.ite ?_ ?_
   | refine LeO.bind ?_ (fun _ => ?_)
  ·intro y0 y1 y2 y3 y4
   unfold spec_Fixed.l0
   repeat' first
   | (with_reducible first | exact ih0 _ _ _ _ _ | exact ih1 _ _ _ _ _ | exact ih2 _ _ _ _ _ | exact spec_HeaderSum.mono _ _ | exact spec_WholeSum.mono _ _ | exact spec_l12Code.mono _ _ | exact spec_l12Title.mono _ _ | exact LeO.refl _ | exact LeO.none _ | refine LeO.ite ?_ ?_ | refine LeO.bind ?_ (fun _ => ?_))
   | exact ih0 _ _ _ _ _
   | exact ih1 _ _ _ _ _
   | exact ih2 _ _ _ _ _
   | exact spec_HeaderSum.mono _ _
   | exact spec_WholeSum.mono _ _
   | exact spec_l12Code.mono _ _
   | exact spec_l12Title.mono _ _
   | exact LeO.none _
   | refine LeO.ite ?_ ?_
   | refine LeO.bind ?_ (fun _ => ?_)
  ·intro y0 y1 y2 y3 y4
   unfold spec_Fixed.l1
   repeat' first
   | (with_reducible first | exact ih0 _ _ _ _ _ | exact ih1 _ _ _ _ _ | exact ih2 _ _ _ _ _ | exact spec_HeaderSum.mono _ _ | exact spec_WholeSum.mono _ _ | exact spec_l12Code.mono _ _ | exact spec_l12Title.mono _ _ | exact LeO.refl _ | exact LeO.none _ | refine LeO.ite ?_ ?_ | refine LeO.bind ?_ (fun _ => ?_))
   | exact ih0 _ _ _ _ _
   | exact ih1 _ _ _ _ _
   | exact ih2 _ _ _ _ _
   | exact spec_HeaderSum.mono _ _
   | exact spec_WholeSum.mono _ _
   | exact spec_l12Code.mono _ _
   | exact spec_l12Title.mono _ _
   | exact LeO.none _
   | refine LeO.ite ?_ ?_
   | refine LeO.bind ?_ (fun _ => ?_)
theorem spec_Fixed.mono : ∀ a0 a1 a2 k, LeO (spec_Fixed.f k a0 a1 a2) (spec_Fixed.f (k + 1) a0 a1 a2) := by
 intro a0 a1 a2 k
 obtain ⟨ih0, ih1, ih2⟩ := spec_Fixed.mono_l k
 unfold spec_Fixed.f
 repeat' first
   | (with_reducible first | exact ih0 _ _ _ _ _ | exact ih1 _ _ _ _ _ | exact ih2 _ _ _ _ _ | exact spec_HeaderSum.mono _ _ | exact spec_WholeSum.mono _ _ | exact spec_l12Code.mono _ _ | exact spec_l12Title.mono _ _ | exact LeO.refl _ | exact LeO.none _ | refine LeO.ite ?_ ?_ | refine LeO.bind ?_ (fun _ => ?_))
   | exact ih0 _ _ _ _ _
   | exact ih1 _ _ _ _ _
   | exact ih2 _ _ _ _ _
   | exact spec_HeaderSum.mono _ _
   | exact spec_WholeSum.mono _ _
   | exact spec_l12Code.mono _ _
   | exact spec_l12Title.mono _ _
   | exact LeO.none _
   | refine LeO.ite ?_ ?_
   | refine LeO.bind ?_ (fun _ => ?_)
theorem spec_Fixed.calls (k : Nat) (a0 : ByteArray) (a1 : ByteArray) (a2 : Int) (r1 : ByteArray) (r2 : Bool) (w : World) (h : spec_Fixed.f k a0 a1 a2 = some (r1, r2)) :
  Calls Tryd.prog 28 #[.string a0, .string a1, .int .i64 a2] w fun e w' => e = .returned (.tuple #[.string r1, .bool r2]) ∧ Below w.heap.size w w' := by
 have HB := Aside0.mk (Below.refl w.heap.size w)
 have H : (if ((a0.size : Int) % 256) = 0 then ((spec_l1In.f (wrap64 ((a0.size : Int) / 256)) 1 16).bind fun t126 => (if t126 = true then ((spec_l12Title.f k a1).bind fun t127 => (if t127 = true then ((spec_l1In.f a2 0 2).bind fun t128 => (spec_Fixed.j0 k a0 a1 a2 (wrap64 ((a0.size : Int) / 256)) (!t128))) else (spec_Fixed.j0 k a0 a1 a2 (wrap64 ((a0.size : Int) / 256)) true))) else (spec_Fixed.j0 k a0 a1 a2 (wrap64 ((a0.size : Int) / 256)) true))) else (spec_Fixed.j0 k a0 a1 a2 (wrap64 ((a0.size : Int) / 256)) true)) = some (r1, r2) := h
 clear h
 have HC4 := Aside0.mk H
 clear H
 go_enter Tryd.func28, Tryd.ntmps28
 go_upto_region 2 with (fail)
 go_cut [34] (fun v34 wc => ∃ (kq : Nat) (x34_3 : Bool), v34 = .bool x34_3 ∧ Aside0 (spec_Fixed.j0 kq a0 a1 a2 (wrap64 ((a0.size : Int) / 256)) x34_3 = some (r1, r2)) ∧ Aside0 (kq ≤ k) ∧ Aside0 (Below w.heap.size w wc))
 case first =>
  have H := HC4.out
  clear HC4
  by_cases c5 : ((a0.size : Int) % 256) = 0
  ·rw [if_pos c5] at H
   have c5b0 : (((a0.size : Int) % 256) == 0) = true := beq_iff_eq.mpr c5
   have c5b1 : (((a0.size : Int) % 256) != 0) = false := bne_eq_false_iff_eq.mpr c5
   clear c5
   (first | rw [c5b0] | (simp only [i64_w, i32_w]; rw [c5b0]) | skip)
   replace H := Option.bind_eq_some_iff.mp H
   obtain ⟨t126, A60, H⟩ := H
   have A6 := Aside0.mk A60
   clear A60
   by_cases c7 : t126 = true
   ·subst c7
    replace H : ((spec_l12Title.f k a1).bind fun t127 => (if t127 = true then ((spec_l1In.f a2 0 2).bind fun t128 => (spec_Fixed.j0 k a0 a1 a2 (wrap64 ((a0.size : Int) / 256)) (!t128))) else (spec_Fixed.j0 k a0 a1 a2 (wrap64 ((a0.size : Int) / 256)) true))) = some (r1, r2) := by rw [if_pos rfl] at H; exact H
    replace H := Option.bind_eq_some_iff.mp H
    obtain ⟨t127, A80, H⟩ := H
    have A8 := Aside0.mk A80
    clear A80
    by_cases c9 : t127 = true
    ·subst c9
     replace H : ((spec_l1In.f a2 0 2).bind fun t128 => (spec_Fixed.j0 k a0 a1 a2 (wrap64 ((a0.size : Int) / 256)) (!t128))) = some (r1, r2) := by rw [if_pos rfl] at H; exact H
     replace H := Option.bind_eq_some_iff.mp H
     obtain ⟨t128, A100, H⟩ := H
     have A10 := Aside0.mk A100
     clear A100
     have H' := Aside0.mk H
     clear H
     go_wp2_with (first | (go_at_call 50; (with_reducible refine (spec_l1In.calls (wrap64 ((a0.size : Int) / 256)) 1 16 true _ A6.out).mono ?_); rintro e w' ⟨rfl, ⟨nd, rfl⟩⟩) | (go_at_call 30; (with_reducible refine (spec_l12Title.calls k a1 true _ A8.out).mono ?_); rintro e w' ⟨rfl, ⟨nd, rfl⟩⟩) | (go_at_call 50; (with_reducible refine (spec_l1In.calls a2 0 2 t128 _ A10.out).mono ?_); rintro e w' ⟨rfl, ⟨nd, rfl⟩⟩))
     go_meet
     case rel => exact ⟨_, (!t128), q74_, H', ⟨q102_⟩, ⟨q56_⟩⟩
    ·replace c9 := Bool.eq_false_iff.mpr c9
     subst c9
     replace H : (spec_Fixed.j0 k a0 a1 a2 (wrap64 ((a0.size : Int) / 256)) true) = some (r1, r2) := by rw [if_neg (show ¬ (false = true) by decide)] at H; exact H
     have H' := Aside0.mk H
     clear H
     go_wp2_with (first | (go_at_call 50; (with_reducible refine (spec_l1In.calls (wrap64 ((a0.size : Int) / 256)) 1 16 true _ A6.out).mono ?_); rintro e w' ⟨rfl, ⟨nd, rfl⟩⟩) | (go_at_call 30; (with_reducible refine (spec_l12Title.calls k a1 false _ A8.out).mono ?_); rintro e w' ⟨rfl, ⟨nd, rfl⟩⟩))
     go_meet
     case rel => exact ⟨_, (true), q74_, H', ⟨q102_⟩, ⟨q56_⟩⟩
   ·replace c7 := Bool.eq_false_iff.mpr c7
    subst c7
    replace H : (spec_Fixed.j0 k a0 a1 a2 (wrap64 ((a0.size : Int) / 256)) true) = some (r1, r2) := by rw [if_neg (show ¬ (false = true) by decide)] at H; exact H
    have H' := Aside0.mk H
    clear H
    go_wp2_with (first | (go_at_call 50; (with_reducible refine (spec_l1In.calls (wrap64 ((a0.size : Int) / 256)) 1 16 false _ A6.out).mono ?_); rintro e w' ⟨rfl, ⟨nd, rfl⟩⟩))
    go_meet
    case rel => exact ⟨_, (true), q74_, H', ⟨q102_⟩, ⟨q56_⟩⟩
  ·rw [if_neg c5] at H
   have c5b0 : (((a0.size : Int) % 256) == 0) = false := beq_eq_false_iff_ne.mpr c5
   have c5b1 : (((a0.size : Int) % 256) != 0) = true := bne_iff_ne.mpr c5
   (first | rw [c5b0] | (simp only [i64_w, i32_w]; rw [c5b0]) | skip)
   have H' := Aside0.mk H
   clear H
   go_wp2
   go_meet
   case rel => exact ⟨_, (true), q74_, H', ⟨q102_⟩, ⟨q56_⟩⟩
 case rest =>
  clear HC4
  try clear c2
  try clear p2
  try clear c5
  try clear c5b0
  try clear c5b1
  try clear p6
  try clear c7
  try clear c9
  obtain ⟨kq, x34_3, rfl, HA, HJ3, HB⟩ := hcut
  cases kq with
  | zero => exact absurd HA.out (by simp [spec_Fixed.j0])
  | succ kj3 =>
   have H := HA.out
   clear HA
   simp only [spec_Fixed.j0] at H
   by_cases c11 : x34_3 = true
   ·subst c11
    replace H : (some ((⟨#[]⟩ : ByteArray), false)) = some (r1, r2) := by rw [if_pos rfl] at H; exact H
    simp only [Option.some.injEq, Prod.mk.injEq] at H
    obtain ⟨rfl, rfl⟩ := H
    go_wp2
    go_ret2
    exact ⟨q60_, q56_⟩
   ·replace c11 := Bool.eq_false_iff.mpr c11
    subst c11
    replace H : (spec_Fixed.l0 kj3 a0 a1 a2 (wrap64 ((a0.size : Int) / 256)) 2) = some (r1, r2) := by rw [if_neg (show ¬ (false = true) by decide)] at H; exact H
    have H' := Aside0.mk H
    clear H
    go_wp2
    go_loopg [9] kj3 (fun kq v9 w' => ∃ (x9_2 : Int), v9 = .int .i64 x9_2 ∧ Aside0 (spec_Fixed.l0 kq a0 a1 a2 (wrap64 ((a0.size : Int) / 256)) x9_2 = some (r1, r2)) ∧ Aside0 (kq ≤ kj3) ∧ Aside0 (Below w.heap.size w w'))
    case atStart => exact ⟨(2), q74_, H', ⟨Nat.le_refl _⟩, ⟨q56_⟩⟩
    case round =>
     clear H'
     try clear c1
     try clear c2
     try clear p2 p2
     try clear c5
     try clear c5b0
     try clear c5b1
     try clear p6 p6
     try clear c7
     try clear c9
     try clear c11
     obtain ⟨x9_2, rfl, HA, HK2, HB⟩ := hrel
     cases gk with
     | zero => exact absurd HA.out (by simp [spec_Fixed.l0])
     | succ k2 =>
      have H := HA.out
      clear HA
      simp only [spec_Fixed.l0] at H
      by_cases c12 : x9_2 < (wrap64 ((a0.size : Int) / 256))
      ·rw [if_pos c12] at H
       have c12b0 : decide (x9_2 < (wrap64 ((a0.size : Int) / 256))) = true := decide_eq_true c12
       clear c12
       have H' := Aside0.mk H
       clear H
       go_wp2
       go_roundg k2
       case measure => have := HJ3.out; have := HK2.out; omega
       case rel => exact ⟨(wrap64 (2 * x9_2)), q74_, H', ⟨by have := HJ3.out; have := HK2.out; omega⟩, ⟨q56_⟩⟩
      ·rw [if_neg c12] at H
       have c12b0 : decide (x9_2 < (wrap64 ((a0.size : Int) / 256))) = false := decide_eq_false c12
       clear c12
       obtain ⟨ji13, hji13⟩ : ∃ j_ : Int, (wrap64 (x9_2 * 256)) = j_ := ⟨_, rfl⟩
       replace H : (if 0 ≤ (ji13) then (if (ji13 : Int).toNat ≤ 281474976710656 then ((some (List.replicate (ji13 : Int).toNat 0 : List Int)).bind fun y129 => (spec_Fixed.l1 k2 a1 a2 x9_2 (cpy y129 0 (y129.length) (bytesOf a0)) 0)) else (none)) else (none)) = some (r1, r2) := by first | (rw [hji13] at H; exact H) | (simp only [hji13] at H ⊢; exact H)
       have hji13w : (IntKind.i64.wrap (x9_2 * 256)) = ji13 := (i64_w _).trans hji13
       by_cases c14 : 0 ≤ (ji13)
       ·rw [if_pos c14] at H
        have c14b0 := eq_true c14
        have c14b1 : decide (0 ≤ (ji13)) = true := decide_eq_true c14
        clear c14
        by_cases c15 : (ji13 : Int).toNat ≤ 281474976710656
        ·rw [if_pos c15] at H
         have c15b0 := eq_true c15
         have c15b1 : decide ((ji13 : Int).toNat ≤ 281474976710656) = true := decide_eq_true c15
         clear c15
         obtain ⟨y129, hy129⟩ : ∃ y_ : List Int, y_ = (List.replicate (ji13 : Int).toNat 0) := ⟨_, rfl⟩
         replace H : (spec_Fixed.l1 k2 a1 a2 x9_2 (cpy y129 0 (y129.length) (bytesOf a0)) 0) = some (r1, r2) := by first | (rw [hy129]; with_reducible exact H) | (have H2_ := (Option.bind_some _ _).symm.trans H; rw [hy129]; with_reducible exact H2_) | (have H2_ := (Option.bind_some _ _).symm.trans H; with_reducible exact H2_) | with_reducible exact H | (rw [hy129]; exact H) | exact H
         have Ny129 := Aside0.mk hy129
         clear hy129
         obtain ⟨y132, hy132⟩ : ∃ y_ : List Int, y_ = (cpy y129 0 (y129.length) (bytesOf a0)) := ⟨_, rfl⟩
         replace H : (spec_Fixed.l1 k2 a1 a2 x9_2 y132 0) = some (r1, r2) := by first | (rw [hy132]; with_reducible exact H) | (have H2_ := (Option.bind_some _ _).symm.trans H; rw [hy132]; with_reducible exact H2_) | (have H2_ := (Option.bind_some _ _).symm.trans H; with_reducible exact H2_) | with_reducible exact H | (rw [hy132]; exact H) | exact H
         have Ny132 := Aside0.mk hy132
         clear hy132
         have H' := Aside0.mk H
         clear H
         go_wp2_with (first | ((with_reducible refine gate_dst (N := 42) rfl ?_); refine Kd.R_make (Kd.int .u8) _ 5 rfl (N := 42) rfl 28 _ _ rfl ji13 rfl rfl Tryd.underlying28 (.int .u8 0) 1 info5 rfl (by decide) (by omega) 0 (ok := fun _ => True) (okp := fun _ => True) rfl (fun _ hk => hk) trivial (of_decide_eq_true q87_) (Nat.le_trans (Nat.mul_le_mul_right _ (of_decide_eq_true q87_ : ji13.toNat ≤ 281474976710656)) (by omega)) (Below.refl _ _) (Nat.le_refl _) ?_; intro v130 w16 ho17 hb hg_ hnew_; clear hg_ hnew_; (first | rw [← Ny129.out] at ho17 | (simp only [Int.reduceToNat] at ho17; rw [← Ny129.out] at ho17)); have n0_ := Aside0.mk (Kd.R_lower ho17 (below_size q56_)); have n1_ := Aside0.mk (below_step q56_ hb); clear HB; have HO131 := n0_; have HB := n1_; clear n0_ n1_; clear hb ho17; obtain ⟨Ao20, co20, eo20⟩ := Kd.R_slice HO131.out; subst eo20) | ((with_reducible refine gate_builtin (b := .copy) rfl ?_); have e_ := (Kd.R_reads' HO131.out).1; have hm_ : y129.length = (y129.length) := (by omega); have hv_ : cpy y129 0 y129.length (bytesOf a0) = y132 := (by rw [Ny132.out]; first | done | rw [hm_]); refine R_copy (w0 := w) w.heap.size rfl (.tmp 43) _ 28 _ 5 rfl Tryd.underlying28 (by kernel_rfl) (A0 := Ao20) (n := y129.length) (c := co20) (m := y129.length) (lo := 0) rfl rfl ?hA (by (with_reducible repeat (first | apply Kd.R_alloc | apply Kd.R_drewN | apply Kd.R_drew)); exact HO131.out) ?hl q56_ (below_size q56_) ?_; (case hA => exact .inl ⟨rfl, rfl⟩); (case hl => omega); intro w18 ho hb hg; rw [hv_] at ho; clear e_ hm_ hv_; have n0_ := Aside0.mk (ho); have n1_ := Aside0.mk (hb); clear HO131; clear HB; have HO131 := n0_; have HB := n1_; clear n0_ n1_; clear ho hb hg))
         go_loopg [11] k2 (fun kq v11 w' => ∃ (x10_3 : List Int) (x11_3 : Int), v11 = .int .i64 x11_3 ∧ Aside0 (spec_Fixed.l1 kq a1 a2 x9_2 x10_3 x11_3 = some (r1, r2)) ∧ Aside0 (kq ≤ k2) ∧ Aside0 (Kd.R (Kd.int .u8) 5 w' w.heap.size (fun _ => True) (.slice Ao20 y129.length co20) x10_3) ∧ Aside0 (Below w.heap.size w w'))
         case atStart => exact ⟨(y132), (0), q74_, (by first | with_reducible exact H' | (have H2_ := H'; simp only [← hji13] at H2_ ⊢; with_reducible exact H2_) | exact H'), ⟨Nat.le_refl _⟩, ⟨by (with_reducible repeat (first | apply Kd.R_alloc | apply Kd.R_drewN | apply Kd.R_drew)); exact HO131.out⟩, ⟨q56_⟩⟩
         case round =>
          clear H'
          try clear c1
          try clear c2
          try clear p2 p2
          try clear c5
          try clear c5b0
          try clear c5b1
          try clear p6 p6
          try clear c7
          try clear c9
          try clear c11
          try clear c12
          try clear c12b0
          try clear c14
          try clear c14b0
          try clear c14b1
          try clear c15
          try clear c15b0
          try clear c15b1
          obtain ⟨x10_3, x11_3, rfl, HA, HK3, HO_10, HB⟩ := hrel
          have hl10_3 := (Kd.R_reads' HO_10.out).1
          rw [hl10_3] at HO_10
          (try simp only [hl10_3])
          cases gk with
          | zero => exact absurd HA.out (by simp [spec_Fixed.l1])
          | succ k3 =>
           have H := HA.out
           clear HA
           simp only [spec_Fixed.l1] at H
           by_cases c21 : x11_3 < 15
           ·rw [if_pos c21] at H
            have c21b0 : decide (x11_3 < 15) = true := decide_eq_true c21
            clear c21
            obtain ⟨ji22, hji22⟩ : ∃ j_ : Int, (wrap64 (52 + x11_3)) = j_ := ⟨_, rfl⟩
            replace H : (if 0 ≤ (ji22) then (if (ji22) < (x10_3.length : Int) then ((some (x10_3.set ((ji22) : Int).toNat 0 : List Int)).bind fun y133 => (if x11_3 < (a1.size : Int) then (if 0 ≤ x11_3 then (spec_Fixed.l1 k3 a1 a2 x9_2 (y133.set ((ji22) : Int).toNat (bt a1 x11_3)) (wrap64 (x11_3 + 1))) else (none)) else (spec_Fixed.l1 k3 a1 a2 x9_2 y133 (wrap64 (x11_3 + 1))))) else (none)) else (none)) = some (r1, r2) := by first | (rw [hji22] at H; exact H) | (simp only [hji22] at H ⊢; exact H)
            have hji22w : (IntKind.i64.wrap (52 + x11_3)) = ji22 := (i64_w _).trans hji22
            by_cases c23 : 0 ≤ (ji22)
            ·rw [if_pos c23] at H
             have c23b0 : decide (0 ≤ (ji22)) = true := decide_eq_true c23
             clear c23
             by_cases c24 : (ji22) < (x10_3.length : Int)
             ·rw [if_pos c24] at H
              have c24b0 : decide ((ji22) < (x10_3.length : Int)) = true := decide_eq_true c24
              clear c24
              obtain ⟨y133, hy133⟩ : ∃ y_ : List Int, y_ = (x10_3.set ((ji22) : Int).toNat 0) := ⟨_, rfl⟩
              replace H : (if x11_3 < (a1.size : Int) then (if 0 ≤ x11_3 then (spec_Fixed.l1 k3 a1 a2 x9_2 (y133.set ((ji22) : Int).toNat (bt a1 x11_3)) (wrap64 (x11_3 + 1))) else (none)) else (spec_Fixed.l1 k3 a1 a2 x9_2 y133 (wrap64 (x11_3 + 1)))) = some (r1, r2) := by first | (rw [hy133]; with_reducible exact H) | (have H2_ := (Option.bind_some _ _).symm.trans H; rw [hy133]; with_reducible exact H2_) | (have H2_ := (Option.bind_some _ _).symm.trans H; with_reducible exact H2_) | with_reducible exact H | (rw [hy133]; exact H) | exact H
              have Ny133 := Aside0.mk hy133
              clear hy133
              by_cases c26 : x11_3 < (a1.size : Int)
              ·rw [if_pos c26] at H
               have c26b0 : decide (x11_3 < (a1.size : Int)) = true := decide_eq_true c26
               clear c26
               by_cases c27 : 0 ≤ x11_3
               ·rw [if_pos c27] at H
                have c27b0 : decide (0 ≤ x11_3) = true := decide_eq_true c27
                clear c27
                obtain ⟨y134, hy134⟩ : ∃ y_ : List Int, y_ = (y133.set ((ji22) : Int).toNat (bt a1 x11_3)) := ⟨_, rfl⟩
                replace H : (spec_Fixed.l1 k3 a1 a2 x9_2 y134 (wrap64 (x11_3 + 1))) = some (r1, r2) := by first | (rw [hy134]; with_reducible exact H) | (have H2_ := (Option.bind_some _ _).symm.trans H; rw [hy134]; with_reducible exact H2_) | (have H2_ := (Option.bind_some _ _).symm.trans H; with_reducible exact H2_) | with_reducible exact H | (rw [hy134]; exact H) | exact H
                have Ny134 := Aside0.mk hy134
                clear hy134
                have H' := Aside0.mk H
                clear H
                have p25 : 0 ≤ ((ji22) : Int) := of_decide_eq_true q87_
                have q25 : ((ji22) : Int) < ((x10_3.length : Int) : Int) := of_decide_eq_true q87_
                obtain ⟨go25, co25, eo25, gb25, gl25, cl25, HG25⟩ := Kd.R_form HO_10.out (by omega)
                (first | cases eo25 | (injection eo25 with ea_ en_ ec_; (first | subst ea_ | (injection ea_ with ea_; subst ea_)); subst ec_; clear en_))
                have GB25 := Aside0.mk gb25
                have GG25 := Aside0.mk HG25
                clear gb25 gl25 HG25
                obtain ⟨hx25_0, hf25_0⟩ := Kd.R_celln 0 HO_10.out ((ji22) : Int) p25 q25
                replace p25 := eq_true p25
                replace q25 := eq_true q25
                have HP30 := Kd.R_putg HO_10.out ((ji22) : Int) 0
                go_wp2_with (first | ((with_reducible refine gate_store (t := 5) (p := 53) rfl ?_); refine store_event (t := 5) (p := 53) (v := ?vo_w31) (w1 := (wr.setCell ⟨go25, ((ji22) : Int).toNat, none⟩ (.int .u8 0))) ?hg ?ho ?hn ?hr ?_; (case ho => rfl); (case hg => rfl); (case hn => rfl); (case hr => exact q118_); intro w31 hw; have hg : wr.grownBy w31 (some go25) := (by rw [hw]; exact HP30.2); have hp_ : Kd.R (Kd.int .u8) 5 w31 w.heap.size (fun _ => True) (.slice (some ⟨go25, 0, none⟩) x10_3.length co20) y133 := (by rw [hw, Ny133.out]; exact HP30.1); clear HP30; have n0_ := Aside0.mk (hp_); have n1_ := Aside0.mk ((by rw [hw]; exact below_set (HB.out) GB25.out : Below w.heap.size w w31)); clear HO_10; clear HB; have HO_10 := n0_; have HB := n1_; clear n0_ n1_; clear hg hw hp_; have p28 : 0 ≤ (x11_3 : Int) := of_decide_eq_true q87_; have q28 : x11_3 < (a1.size : Int) := of_decide_eq_true q87_; have hx28 := bt_at a1 x11_3; replace p28 := eq_true p28; replace q28 := eq_true q28; have p29 : 0 ≤ ((ji22) : Int) := of_decide_eq_true q87_; have q29 : ((ji22) : Int) < ((x10_3.length : Int) : Int) := of_decide_eq_true q87_; obtain ⟨hx29_0, hf29_0⟩ := Kd.R_celln 0 HO_10.out ((ji22) : Int) p29 q29; replace p29 := eq_true p29; replace q29 := eq_true q29; obtain ⟨hy32_, hz32_⟩ := Kd.R_celln 0 HO_10.out ((ji22) : Int) (of_decide_eq_true q87_) (of_decide_eq_true q87_); have HP32 := Kd.R_putg HO_10.out ((ji22) : Int) (bt a1 x11_3)) | ((with_reducible refine gate_store (t := 5) (p := 64) rfl ?_); refine store_event (t := 5) (p := 64) (v := ?vo_w33) (w1 := (w31.setCell ⟨go25, ((ji22) : Int).toNat, none⟩ (.int .u8 (bt a1 x11_3)))) ?hg ?ho ?hn ?hr ?_; (case ho => rfl); (case hg => rfl); (case hn => rfl); (case hr => exact q118_); intro w33 hw; have hg : w31.grownBy w33 (some go25) := (by rw [hw]; exact HP32.2); have hp_ : Kd.R (Kd.int .u8) 5 w33 w.heap.size (fun _ => True) (.slice (some ⟨go25, 0, none⟩) x10_3.length co20) y134 := (by rw [hw, Ny134.out]; exact HP32.1); clear HP32; have n0_ := Aside0.mk (hp_); have n1_ := Aside0.mk ((by rw [hw]; exact below_set (HB.out) GB25.out : Below w.heap.size w w33)); clear HO_10; clear HB; have HO_10 := n0_; have HB := n1_; clear n0_ n1_; clear hg hw hp_))
                (try simp only [← hl10_3])
                go_roundg k3
                case measure => have := HJ3.out; have := HK2.out; have := HK3.out; omega
                case rel => exact ⟨(y134), (wrap64 (x11_3 + 1)), q74_, q59_, ⟨by have := HJ3.out; have := HK2.out; have := HK3.out; omega⟩, ⟨q57_⟩, ⟨q56_⟩⟩
               ·rw [if_neg c27] at H
                exact absurd H (by simp)
              ·rw [if_neg c26] at H
               have c26b0 : decide (x11_3 < (a1.size : Int)) = false := decide_eq_false c26
               clear c26
               have H' := Aside0.mk H
               clear H
               have p25 : 0 ≤ ((ji22) : Int) := of_decide_eq_true q87_
               have q25 : ((ji22) : Int) < ((x10_3.length : Int) : Int) := of_decide_eq_true q87_
               obtain ⟨go25, co25, eo25, gb25, gl25, cl25, HG25⟩ := Kd.R_form HO_10.out (by omega)
               (first | cases eo25 | (injection eo25 with ea_ en_ ec_; (first | subst ea_ | (injection ea_ with ea_; subst ea_)); subst ec_; clear en_))
               have GB25 := Aside0.mk gb25
               have GG25 := Aside0.mk HG25
               clear gb25 gl25 HG25
               obtain ⟨hx25_0, hf25_0⟩ := Kd.R_celln 0 HO_10.out ((ji22) : Int) p25 q25
               replace p25 := eq_true p25
               replace q25 := eq_true q25
               have HP34 := Kd.R_putg HO_10.out ((ji22) : Int) 0
               go_wp2_with (first | ((with_reducible refine gate_store (t := 5) (p := 53) rfl ?_); refine store_event (t := 5) (p := 53) (v := ?vo_w35) (w1 := (wr.setCell ⟨go25, ((ji22) : Int).toNat, none⟩ (.int .u8 0))) ?hg ?ho ?hn ?hr ?_; (case ho => rfl); (case hg => rfl); (case hn => rfl); (case hr => exact q118_); intro w35 hw; have hg : wr.grownBy w35 (some go25) := (by rw [hw]; exact HP34.2); have hp_ : Kd.R (Kd.int .u8) 5 w35 w.heap.size (fun _ => True) (.slice (some ⟨go25, 0, none⟩) x10_3.length co20) y133 := (by rw [hw, Ny133.out]; exact HP34.1); clear HP34; have n0_ := Aside0.mk (hp_); have n1_ := Aside0.mk ((by rw [hw]; exact below_set (HB.out) GB25.out : Below w.heap.size w w35)); clear HO_10; clear HB; have HO_10 := n0_; have HB := n1_; clear n0_ n1_; clear hg hw hp_))
               (try simp only [← hl10_3])
               go_roundg k3
               case measure => have := HJ3.out; have := HK2.out; have := HK3.out; omega
               case rel => exact ⟨(y133), (wrap64 (x11_3 + 1)), q74_, q59_, ⟨by have := HJ3.out; have := HK2.out; have := HK3.out; omega⟩, ⟨q57_⟩, ⟨q56_⟩⟩
             ·rw [if_neg c24] at H
              exact absurd H (by simp)
            ·rw [if_neg c23] at H
             exact absurd H (by simp)
           ·rw [if_neg c21] at H
            have c21b0 : decide (x11_3 < 15) = false := decide_eq_false c21
            clear c21
            by_cases c36 : 71 < (x10_3.length : Int)
            ·rw [if_pos c36] at H
             have c36b0 : decide (71 < (x10_3.length : Int)) = true := decide_eq_true c36
             have c36b1 : decide (71 < x10_3.length) = true := decide_eq_true (by omega)
             clear c36
             obtain ⟨y135, hy135⟩ : ∃ y_ : List Int, y_ = (x10_3.set (71 : Int).toNat ((a2) % 256)) := ⟨_, rfl⟩
             replace H : ((spec_l12Code.f k3 x9_2).bind fun t136 => (if 72 < (x10_3.length : Int) then ((some (y135.set (72 : Int).toNat ((t136) % 256) : List Int)).bind fun y137 => ((spec_HeaderSum.f k3 (strOfNums y137)).bind fun t138 => (if 77 < (x10_3.length : Int) then ((some (y137.set (77 : Int).toNat ((t138) % 256) : List Int)).bind fun y139 => ((spec_WholeSum.f k3 (strOfNums y139)).bind fun t140 => (if 78 < (x10_3.length : Int) then (if 79 < (x10_3.length : Int) then (some (strOfNums ((y139.set (78 : Int).toNat ((t140 / 256) % 256)).set (79 : Int).toNat ((t140) % 256)), true)) else (none)) else (none)))) else (none)))) else (none))) = some (r1, r2) := by first | (rw [hy135]; with_reducible exact H) | (have H2_ := (Option.bind_some _ _).symm.trans H; rw [hy135]; with_reducible exact H2_) | (have H2_ := (Option.bind_some _ _).symm.trans H; with_reducible exact H2_) | with_reducible exact H | (rw [hy135]; exact H) | exact H
             have Ny135 := Aside0.mk hy135
             clear hy135
             replace H := Option.bind_eq_some_iff.mp H
             obtain ⟨t136, A380, H⟩ := H
             have A38 := Aside0.mk A380
             clear A380
             by_cases c39 : 72 < (x10_3.length : Int)
             ·rw [if_pos c39] at H
              have c39b0 : decide (72 < (x10_3.length : Int)) = true := decide_eq_true c39
              have c39b1 : decide (72 < x10_3.length) = true := decide_eq_true (by omega)
              clear c39
              obtain ⟨y137, hy137⟩ : ∃ y_ : List Int, y_ = (y135.set (72 : Int).toNat ((t136) % 256)) := ⟨_, rfl⟩
              replace H : ((spec_HeaderSum.f k3 (strOfNums y137)).bind fun t138 => (if 77 < (x10_3.length : Int) then ((some (y137.set (77 : Int).toNat ((t138) % 256) : List Int)).bind fun y139 => ((spec_WholeSum.f k3 (strOfNums y139)).bind fun t140 => (if 78 < (x10_3.length : Int) then (if 79 < (x10_3.length : Int) then (some (strOfNums ((y139.set (78 : Int).toNat ((t140 / 256) % 256)).set (79 : Int).toNat ((t140) % 256)), true)) else (none)) else (none)))) else (none))) = some (r1, r2) := by first | (rw [hy137]; with_reducible exact H) | (have H2_ := (Option.bind_some _ _).symm.trans H; rw [hy137]; with_reducible exact H2_) | (have H2_ := (Option.bind_some _ _).symm.trans H; with_reducible exact H2_) | with_reducible exact H | (rw [hy137]; exact H) | exact H
              have Ny137 := Aside0.mk hy137
              clear hy137
              replace H := Option.bind_eq_some_iff.mp H
              obtain ⟨t138, A410, H⟩ := H
              have A41 := Aside0.mk A410
              clear A410
              by_cases c42 : 77 < (x10_3.length : Int)
              ·rw [if_pos c42] at H
               have c42b0 : decide (77 < (x10_3.length : Int)) = true := decide_eq_true c42
               have c42b1 : decide (77 < x10_3.length) = true := decide_eq_true (by omega)
               clear c42
               obtain ⟨y139, hy139⟩ : ∃ y_ : List Int, y_ = (y137.set (77 : Int).toNat ((t138) % 256)) := ⟨_, rfl⟩
               replace H : ((spec_WholeSum.f k3 (strOfNums y139)).bind fun t140 => (if 78 < (x10_3.length : Int) then (if 79 < (x10_3.length : Int) then (some (strOfNums ((y139.set (78 : Int).toNat ((t140 / 256) % 256)).set (79 : Int).toNat ((t140) % 256)), true)) else (none)) else (none))) = some (r1, r2) := by first | (rw [hy139]; with_reducible exact H) | (have H2_ := (Option.bind_some _ _).symm.trans H; rw [hy139]; with_reducible exact H2_) | (have H2_ := (Option.bind_some _ _).symm.trans H; with_reducible exact H2_) | with_reducible exact H | (rw [hy139]; exact H) | exact H
               have Ny139 := Aside0.mk hy139
               clear hy139
               replace H := Option.bind_eq_some_iff.mp H
               obtain ⟨t140, A440, H⟩ := H
               have A44 := Aside0.mk A440
               clear A440
               by_cases c45 : 78 < (x10_3.length : Int)
               ·rw [if_pos c45] at H
                have c45b0 : decide (78 < (x10_3.length : Int)) = true := decide_eq_true c45
                have c45b1 : decide (78 < x10_3.length) = true := decide_eq_true (by omega)
                clear c45
                obtain ⟨y141, hy141⟩ : ∃ y_ : List Int, y_ = (y139.set (78 : Int).toNat ((t140 / 256) % 256)) := ⟨_, rfl⟩
                replace H : (if 79 < (x10_3.length : Int) then (some (strOfNums (y141.set (79 : Int).toNat ((t140) % 256)), true)) else (none)) = some (r1, r2) := by first | (rw [hy141]; with_reducible exact H) | (have H2_ := (Option.bind_some _ _).symm.trans H; rw [hy141]; with_reducible exact H2_) | (have H2_ := (Option.bind_some _ _).symm.trans H; with_reducible exact H2_) | with_reducible exact H | (rw [hy141]; exact H) | exact H
                have Ny141 := Aside0.mk hy141
                clear hy141
                by_cases c47 : 79 < (x10_3.length : Int)
                ·rw [if_pos c47] at H
                 have c47b0 : decide (79 < (x10_3.length : Int)) = true := decide_eq_true c47
                 have c47b1 : decide (79 < x10_3.length) = true := decide_eq_true (by omega)
                 clear c47
                 obtain ⟨y142, hy142⟩ : ∃ y_ : List Int, y_ = (y141.set (79 : Int).toNat ((t140) % 256)) := ⟨_, rfl⟩
                 replace H : (some (strOfNums y142, true)) = some (r1, r2) := by first | (rw [hy142]; with_reducible exact H) | (have H2_ := (Option.bind_some _ _).symm.trans H; rw [hy142]; with_reducible exact H2_) | (have H2_ := (Option.bind_some _ _).symm.trans H; with_reducible exact H2_) | with_reducible exact H | (rw [hy142]; exact H) | exact H
                 have Ny142 := Aside0.mk hy142
                 clear hy142
                 simp only [Option.some.injEq, Prod.mk.injEq] at H
                 obtain ⟨rfl, rfl⟩ := H
                 have p37 : 0 ≤ (71 : Int) := (by omega)
                 have q37 : (71 : Int) < ((x10_3.length : Int) : Int) := of_decide_eq_true q87_
                 have qi37 : (71 < x10_3.length) = True := eq_true (by omega)
                 obtain ⟨go37, co37, eo37, gb37, gl37, cl37, HG37⟩ := Kd.R_form HO_10.out (by omega)
                 (first | cases eo37 | (injection eo37 with ea_ en_ ec_; (first | subst ea_ | (injection ea_ with ea_; subst ea_)); subst ec_; clear en_))
                 have GB37 := Aside0.mk gb37
                 have GG37 := Aside0.mk HG37
                 clear gb37 gl37 HG37
                 obtain ⟨hx37_0, hf37_0⟩ := Kd.R_celln 0 HO_10.out (71 : Int) p37 q37
                 (try rw [show ((71 : Int)).toNat = 71 from rfl] at hx37_0)
                 (try simp only [Nat.reduceMul, Nat.zero_mul, Nat.zero_add, Nat.reduceAdd] at hx37_0)
                 (try rw [show ((71 : Int)).toNat = 71 from rfl] at hf37_0)
                 (try simp only [Nat.reduceMul, Nat.zero_mul, Nat.zero_add, Nat.reduceAdd] at hf37_0)
                 replace p37 := eq_true p37
                 replace q37 := eq_true q37
                 have HP49 := Kd.R_putg HO_10.out (71 : Int) ((a2) % 256)
                 go_wp2_with (first | ((with_reducible refine gate_store (t := 5) (p := 68) rfl ?_); refine store_event (t := 5) (p := 68) (v := ?vo_w50) (w1 := (wr.setCell ⟨go37, (71 : Int).toNat, none⟩ (.int .u8 ((a2) % 256)))) ?hg ?ho ?hn ?hr ?_; (case ho => rfl); (case hg => rfl); (case hn => rfl); (case hr => exact q118_); intro w50 hw; have hg : wr.grownBy w50 (some go37) := (by rw [hw]; exact HP49.2); have hp_ : Kd.R (Kd.int .u8) 5 w50 w.heap.size (fun _ => True) (.slice (some ⟨go37, 0, none⟩) x10_3.length co20) y135 := (by rw [hw, Ny135.out]; exact HP49.1); clear HP49; have n0_ := Aside0.mk (hp_); have n1_ := Aside0.mk ((q100_ : Below w.heap.size w w50)); clear HO_10; clear HB; have HO_10 := n0_; have HB := n1_; clear n0_ n1_; clear hg hw hp_) | ((with_reducible refine gate_callee (f := 31) rfl ?_); refine goesL_ (some 71) rfl rfl Tryd.func31 (by kernel_rfl) rfl #[.int .i64 x9_2] rfl q55_ ?_; (with_reducible refine (spec_l12Code.calls k3 x9_2 t136 _ A38.out).mono ?_); rintro e w' ⟨rfl, ⟨nd, rfl⟩⟩; refine ⟨_, rfl, ?_⟩; (try (rw [drewN_self w50]; generalize hq_ : World.drewN w50 _ = w50; have n0_ : Aside0 (Kd.R (Kd.int .u8) 5 w50 w.heap.size (fun _ => True) (.slice (some ⟨go37, 0, none⟩) x10_3.length co20) y135) := ⟨q58_⟩; have n1_ : Aside0 (Below w.heap.size w w50) := ⟨q50_⟩; clear HO_10 HB hq_; have HO_10 := n0_; have HB := n1_; clear n0_ n1_)); have p40 : 0 ≤ (72 : Int) := (by omega); have q40 : (72 : Int) < ((x10_3.length : Int) : Int) := of_decide_eq_true q87_; have qi40 : (72 < x10_3.length) = True := eq_true (by omega); obtain ⟨hx40_0, hf40_0⟩ := Kd.R_celln 0 HO_10.out (72 : Int) p40 q40; (try rw [show ((72 : Int)).toNat = 72 from rfl] at hx40_0); (try simp only [Nat.reduceMul, Nat.zero_mul, Nat.zero_add, Nat.reduceAdd] at hx40_0); (try rw [show ((72 : Int)).toNat = 72 from rfl] at hf40_0); (try simp only [Nat.reduceMul, Nat.zero_mul, Nat.zero_add, Nat.reduceAdd] at hf40_0); replace p40 := eq_true p40; replace q40 := eq_true q40; obtain ⟨hy51_, hz51_⟩ := Kd.R_celln 0 HO_10.out (72 : Int) (by omega) (of_decide_eq_true q87_); (try simp only [Int.reduceToNat, Int.toNat_zero, Int.toNat_ofNat, Nat.reduceMul, Nat.zero_mul, Nat.zero_add] at hy51_ hz51_); (try rw [show ((72 : Int)).toNat = 72 from rfl] at hy51_); (try rw [show ((72 : Int)).toNat = 72 from rfl] at hz51_); have HP51 := Kd.R_putg HO_10.out (72 : Int) ((t136) % 256)) | ((with_reducible refine gate_store (t := 5) (p := 73) rfl ?_); refine store_event (t := 5) (p := 73) (v := ?vo_w52) (w1 := (w50.setCell ⟨go37, (72 : Int).toNat, none⟩ (.int .u8 ((t136) % 256)))) ?hg ?ho ?hn ?hr ?_; (case ho => rfl); (case hg => rfl); (case hn => rfl); (case hr => exact q118_); intro w52 hw; have hg : w50.grownBy w52 (some go37) := (by rw [hw]; exact HP51.2); have hp_ : Kd.R (Kd.int .u8) 5 w52 w.heap.size (fun _ => True) (.slice (some ⟨go37, 0, none⟩) x10_3.length co20) y137 := (by rw [hw, Ny137.out]; exact HP51.1); clear HP51; have n0_ := Aside0.mk (hp_); have n1_ := Aside0.mk ((q100_ : Below w.heap.size w w52)); clear HO_10; clear HB; have HO_10 := n0_; have HB := n1_; clear n0_ n1_; clear hg hw hp_; have hcv53 := own_string (P := Tryd.prog) Tryd.underlying28 Tryd.underlying5 Tryd.underlying9 (Kd.own_of_R HO_10.out); have hcvq53 := fun m_ : Nat => own_string (P := Tryd.prog) Tryd.underlying28 Tryd.underlying5 Tryd.underlying9 (Kd.own_of_R (Kd.R_drewN HO_10.out m_))) | ((with_reducible refine gate_callee (f := 19) rfl ?_); refine goesL_ (some 77) rfl rfl Tryd.func19 (by kernel_rfl) rfl #[.string (strOfNums y137)] rfl q55_ ?_; (with_reducible refine (spec_HeaderSum.calls k3 (strOfNums y137) t138 _ A41.out).mono ?_); rintro e w' ⟨rfl, ⟨nd, rfl⟩⟩; refine ⟨_, rfl, ?_⟩; (try (rw [drewN_self w52]; generalize hq_ : World.drewN w52 _ = w52; have n0_ : Aside0 (Kd.R (Kd.int .u8) 5 w52 w.heap.size (fun _ => True) (.slice (some ⟨go37, 0, none⟩) x10_3.length co20) y137) := ⟨q58_⟩; have n1_ : Aside0 (Below w.heap.size w w52) := ⟨q50_⟩; clear HO_10 HB hq_; have HO_10 := n0_; have HB := n1_; clear n0_ n1_)); have p43 : 0 ≤ (77 : Int) := (by omega); have q43 : (77 : Int) < ((x10_3.length : Int) : Int) := of_decide_eq_true q87_; have qi43 : (77 < x10_3.length) = True := eq_true (by omega); obtain ⟨hx43_0, hf43_0⟩ := Kd.R_celln 0 HO_10.out (77 : Int) p43 q43; (try rw [show ((77 : Int)).toNat = 77 from rfl] at hx43_0); (try simp only [Nat.reduceMul, Nat.zero_mul, Nat.zero_add, Nat.reduceAdd] at hx43_0); (try rw [show ((77 : Int)).toNat = 77 from rfl] at hf43_0); (try simp only [Nat.reduceMul, Nat.zero_mul, Nat.zero_add, Nat.reduceAdd] at hf43_0); replace p43 := eq_true p43; replace q43 := eq_true q43; obtain ⟨hy54_, hz54_⟩ := Kd.R_celln 0 HO_10.out (77 : Int) (by omega) (of_decide_eq_true q87_); (try simp only [Int.reduceToNat, Int.toNat_zero, Int.toNat_ofNat, Nat.reduceMul, Nat.zero_mul, Nat.zero_add] at hy54_ hz54_); (try rw [show ((77 : Int)).toNat = 77 from rfl] at hy54_); (try rw [show ((77 : Int)).toNat = 77 from rfl] at hz54_); have HP54 := Kd.R_putg HO_10.out (77 : Int) ((t138) % 256)) | ((with_reducible refine gate_store (t := 5) (p := 79) rfl ?_); refine store_event (t := 5) (p := 79) (v := ?vo_w55) (w1 := (w52.setCell ⟨go37, (77 : Int).toNat, none⟩ (.int .u8 ((t138) % 256)))) ?hg ?ho ?hn ?hr ?_; (case ho => rfl); (case hg => rfl); (case hn => rfl); (case hr => exact q118_); intro w55 hw; have hg : w52.grownBy w55 (some go37) := (by rw [hw]; exact HP54.2); have hp_ : Kd.R (Kd.int .u8) 5 w55 w.heap.size (fun _ => True) (.slice (some ⟨go37, 0, none⟩) x10_3.length co20) y139 := (by rw [hw, Ny139.out]; exact HP54.1); clear HP54; have n0_ := Aside0.mk (hp_); have n1_ := Aside0.mk ((q100_ : Below w.heap.size w w55)); clear HO_10; clear HB; have HO_10 := n0_; have HB := n1_; clear n0_ n1_; clear hg hw hp_; have hcv56 := own_string (P := Tryd.prog) Tryd.underlying28 Tryd.underlying5 Tryd.underlying9 (Kd.own_of_R HO_10.out); have hcvq56 := fun m_ : Nat => own_string (P := Tryd.prog) Tryd.underlying28 Tryd.underlying5 Tryd.underlying9 (Kd.own_of_R (Kd.R_drewN HO_10.out m_))) | ((with_reducible refine gate_callee (f := 21) rfl ?_); refine goesL_ (some 82) rfl rfl Tryd.func21 (by kernel_rfl) rfl #[.string (strOfNums y139)] rfl q55_ ?_; (with_reducible refine (spec_WholeSum.calls k3 (strOfNums y139) t140 _ A44.out).mono ?_); rintro e w' ⟨rfl, ⟨nd, rfl⟩⟩; refine ⟨_, rfl, ?_⟩; (try (rw [drewN_self w55]; generalize hq_ : World.drewN w55 _ = w55; have n0_ : Aside0 (Kd.R (Kd.int .u8) 5 w55 w.heap.size (fun _ => True) (.slice (some ⟨go37, 0, none⟩) x10_3.length co20) y139) := ⟨q58_⟩; have n1_ : Aside0 (Below w.heap.size w w55) := ⟨q50_⟩; clear HO_10 HB hq_; have HO_10 := n0_; have HB := n1_; clear n0_ n1_)); have p46 : 0 ≤ (78 : Int) := (by omega); have q46 : (78 : Int) < ((x10_3.length : Int) : Int) := of_decide_eq_true q87_; have qi46 : (78 < x10_3.length) = True := eq_true (by omega); obtain ⟨hx46_0, hf46_0⟩ := Kd.R_celln 0 HO_10.out (78 : Int) p46 q46; (try rw [show ((78 : Int)).toNat = 78 from rfl] at hx46_0); (try simp only [Nat.reduceMul, Nat.zero_mul, Nat.zero_add, Nat.reduceAdd] at hx46_0); (try rw [show ((78 : Int)).toNat = 78 from rfl] at hf46_0); (try simp only [Nat.reduceMul, Nat.zero_mul, Nat.zero_add, Nat.reduceAdd] at hf46_0); replace p46 := eq_true p46; replace q46 := eq_true q46; obtain ⟨hy57_, hz57_⟩ := Kd.R_celln 0 HO_10.out (78 : Int) (by omega) (of_decide_eq_true q87_); (try simp only [Int.reduceToNat, Int.toNat_zero, Int.toNat_ofNat, Nat.reduceMul, Nat.zero_mul, Nat.zero_add] at hy57_ hz57_); (try rw [show ((78 : Int)).toNat = 78 from rfl] at hy57_); (try rw [show ((78 : Int)).toNat = 78 from rfl] at hz57_); have HP57 := Kd.R_putg HO_10.out (78 : Int) ((t140 / 256) % 256)) | ((with_reducible refine gate_store (t := 5) (p := 87) rfl ?_); refine store_event (t := 5) (p := 87) (v := ?vo_w58) (w1 := (w55.setCell ⟨go37, (78 : Int).toNat, none⟩ (.int .u8 ((t140 / 256) % 256)))) ?hg ?ho ?hn ?hr ?_; (case ho => rfl); (case hg => rfl); (case hn => rfl); (case hr => exact q118_); intro w58 hw; have hg : w55.grownBy w58 (some go37) := (by rw [hw]; exact HP57.2); have hp_ : Kd.R (Kd.int .u8) 5 w58 w.heap.size (fun _ => True) (.slice (some ⟨go37, 0, none⟩) x10_3.length co20) y141 := (by rw [hw, Ny141.out]; exact HP57.1); clear HP57; have n0_ := Aside0.mk (hp_); have n1_ := Aside0.mk ((q100_ : Below w.heap.size w w58)); clear HO_10; clear HB; have HO_10 := n0_; have HB := n1_; clear n0_ n1_; clear hg hw hp_; have p48 : 0 ≤ (79 : Int) := (by omega); have q48 : (79 : Int) < ((x10_3.length : Int) : Int) := of_decide_eq_true q87_; have qi48 : (79 < x10_3.length) = True := eq_true (by omega); obtain ⟨hx48_0, hf48_0⟩ := Kd.R_celln 0 HO_10.out (79 : Int) p48 q48; (try rw [show ((79 : Int)).toNat = 79 from rfl] at hx48_0); (try simp only [Nat.reduceMul, Nat.zero_mul, Nat.zero_add, Nat.reduceAdd] at hx48_0); (try rw [show ((79 : Int)).toNat = 79 from rfl] at hf48_0); (try simp only [Nat.reduceMul, Nat.zero_mul, Nat.zero_add, Nat.reduceAdd] at hf48_0); replace p48 := eq_true p48; replace q48 := eq_true q48; obtain ⟨hy59_, hz59_⟩ := Kd.R_celln 0 HO_10.out (79 : Int) (by omega) (of_decide_eq_true q87_); (try simp only [Int.reduceToNat, Int.toNat_zero, Int.toNat_ofNat, Nat.reduceMul, Nat.zero_mul, Nat.zero_add] at hy59_ hz59_); (try rw [show ((79 : Int)).toNat = 79 from rfl] at hy59_); (try rw [show ((79 : Int)).toNat = 79 from rfl] at hz59_); have HP59 := Kd.R_putg HO_10.out (79 : Int) ((t140) % 256)) | ((with_reducible refine gate_store (t := 5) (p := 91) rfl ?_); refine store_event (t := 5) (p := 91) (v := ?vo_w60) (w1 := (w58.setCell ⟨go37, (79 : Int).toNat, none⟩ (.int .u8 ((t140) % 256)))) ?hg ?ho ?hn ?hr ?_; (case ho => rfl); (case hg => rfl); (case hn => rfl); (case hr => exact q118_); intro w60 hw; have hg : w58.grownBy w60 (some go37) := (by rw [hw]; exact HP59.2); have hp_ : Kd.R (Kd.int .u8) 5 w60 w.heap.size (fun _ => True) (.slice (some ⟨go37, 0, none⟩) x10_3.length co20) y142 := (by rw [hw, Ny142.out]; exact HP59.1); clear HP59; have n0_ := Aside0.mk (hp_); have n1_ := Aside0.mk ((q100_ : Below w.heap.size w w60)); clear HO_10; clear HB; have HO_10 := n0_; have HB := n1_; clear n0_ n1_; clear hg hw hp_; have hcv61 := own_string (P := Tryd.prog) Tryd.underlying28 Tryd.underlying5 Tryd.underlying9 (Kd.own_of_R HO_10.out); have hcvq61 := fun m_ : Nat => own_string (P := Tryd.prog) Tryd.underlying28 Tryd.underlying5 Tryd.underlying9 (Kd.own_of_R (Kd.R_drewN HO_10.out m_))))
                 go_ret2
                 exact ⟨q26_, q56_⟩
                ·rw [if_neg c47] at H
                 exact absurd H (by simp)
               ·rw [if_neg c45] at H
                exact absurd H (by simp)
              ·rw [if_neg c42] at H
               exact absurd H (by simp)
             ·rw [if_neg c39] at H
              exact absurd H (by simp)
            ·rw [if_neg c36] at H
             exact absurd H (by simp)
        ·rw [if_neg c15] at H
         exact absurd H (by simp)
       ·rw [if_neg c14] at H
        exact absurd H (by simp)
/-- A state of type 73 at block g of W; what its slices lead to came in by w0. -/
def IsS73 (w0 W : World) (g : Nat) (f0 : List Int) (f1 : Int) : Prop := ∃ A0 c0, W.heap[g]? = some (.cells #[.slice A0 f0.length c0, .int .i64 f1] 73 (0, 0)) ∧ w0.heap.size ≤ g ∧ Kd.C (Kd.int .u8) w0 A0 f0.length f0
theorem IsS73.grown {w0 W : World} {g : Nat} {f0 : List Int} {f1 : Int} {W1 : World} {row : Option Nat} (h : IsS73 w0 W g f0 f1) (hw : W.grownBy W1 row) (hne : some g ≠ row) : IsS73 w0 W1 g f0 f1 := by
 obtain ⟨A0, c0, hb, hg, hr0⟩ := h
 exact ⟨A0, c0, blk_grown hb hw hne, hg, hr0⟩
theorem IsS73.own_neN {w0 W : World} {g : Nat} {f0 : List Int} {f1 : Int} {α : Type} {d : Kd α} {e : Nat} {base : Nat} {ok : Nat → Prop} {v : Value} {xs : List α} (h : IsS73 w0 W g f0 f1) (ho : Kd.N d e W base ok v xs) (ht : e ≠ 73) : some g ≠ v.ownBlock := by
 obtain ⟨A0, c0, hb, hg, hr0⟩ := h
 exact Kd.N_ne ho hb ht
theorem IsS73.fresh {w0 W : World} {g : Nat} {f0 : List Int} {f1 : Int} (h : IsS73 w0 W g f0 f1) : ∀ k, W.heap.size ≤ k → k ≠ g := by
 obtain ⟨A0, c0, hb, hg, hr0⟩ := h
 exact Kd.freshB hb
theorem IsS73.kept {w0 W : World} {g : Nat} {f0 : List Int} {f1 : Int} {W1 : World} {S : Nat → Prop} (h : IsS73 w0 W g f0 f1) (hk : Kept W W1 S) (hne : ¬ S g) : IsS73 w0 W1 g f0 f1 := by
 obtain ⟨A0, c0, hb, hg, hr0⟩ := h
 exact ⟨A0, c0, blk_kept hb hk hne, hg, hr0⟩
theorem IsS73.below {w0 W : World} {g : Nat} {f0 : List Int} {f1 : Int} {W1 : World} (h : IsS73 w0 W g f0 f1) (hw : Below W.heap.size W W1) : IsS73 w0 W1 g f0 f1 := h.grown (grown_of_below hw none) (by simp)
theorem IsS73.alloc {w0 W : World} {g : Nat} {f0 : List Int} {f1 : Int} (h : IsS73 w0 W g f0 f1) (o : Obj) : IsS73 w0 (W.alloc o) g f0 f1 := h.below (below_alloc (Below.refl _ _) o)
theorem IsS73.drewN {w0 W : World} {g : Nat} {f0 : List Int} {f1 : Int} (h : IsS73 w0 W g f0 f1) (m : Nat) : IsS73 w0 (W.drewN m) g f0 f1 := h
theorem IsS73.drew {w0 W : World} {g : Nat} {f0 : List Int} {f1 : Int} (h : IsS73 w0 W g f0 f1) : IsS73 w0 W.drew g f0 f1 := h
theorem IsS73.at_ {w0 W : World} {g : Nat} {f0 : List Int} {f1 : Int} {w' : World} {m : Nat} (hq : W.drewN m = w') (h : IsS73 w0 W g f0 f1) : IsS73 w0 w' g f0 f1 := by subst hq; exact IsS73.drewN h m
theorem IsS73.apart {w0 W : World} {g : Nat} {f0 : List Int} {f1 : Int} {α : Type} {d : Kd α} {e : Nat} {base : Nat} {ok : Nat → Prop} {v : Value} {xs : List α} (h : IsS73 w0 W g f0 f1) (ho : d.R e W base ok v xs) (ht : ∀ q, q ∈ e :: d.E → q ≠ 73) : d.R e W base (fun k => ok k ∧ k ≠ g) v xs := by
 obtain ⟨A0, c0, hb, hg, hr0⟩ := h
 exact Kd.R_types ho hb ht
theorem IsS73.own_ne {w0 W : World} {g : Nat} {f0 : List Int} {f1 : Int} {α : Type} {d : Kd α} {e : Nat} {base : Nat} {ok : Nat → Prop} {v : Value} {xs : List α} (h : IsS73 w0 W g f0 f1) (ho : d.R e W base ok v xs) (ht : e ≠ 73) : some g ≠ v.ownBlock := by
 obtain ⟨A0, c0, hb, hg, hr0⟩ := h
 exact Kd.R_ne ho hb ht
theorem IsS73.apartQ {w0 W : World} {g : Nat} {f0 : List Int} {f1 : Int} {α : Type} {d : Kd α} {e : Nat} {base : Nat} {ok : Nat → Prop} {v : Value} {xs : List α} (h : IsS73 w0 W g f0 f1) (ho : d.Q e W base ok v xs) (ht : ∀ q, q ∈ e :: d.E → q ≠ 73) : d.Q e W base (fun k => ok k ∧ k ≠ g) v xs := by
 obtain ⟨A0, c0, hb, hg, hr0⟩ := h
 exact Kd.Q_types ho hb ht
theorem IsS73.own_neQ {w0 W : World} {g : Nat} {f0 : List Int} {f1 : Int} {α : Type} {d : Kd α} {e : Nat} {base : Nat} {ok : Nat → Prop} {v : Value} {xs : List α} (h : IsS73 w0 W g f0 f1) (ho : d.Q e W base ok v xs) (ht : e ≠ 73) : some g ≠ v.ownBlock := by
 obtain ⟨A0, c0, hb, hg, hr0⟩ := h
 exact Kd.Q_ne ho hb ht
theorem IsS73.apartS {w0 W : World} {g : Nat} {f0 : List Int} {f1 : Int} {α : Type} {d : Kd α} {e : Nat} {base : Nat} {ok : Nat → Prop} {v : Value} {xs : List α} (h : IsS73 w0 W g f0 f1) (ho : d.S e W base ok v xs) (ht : ∀ q, q ∈ e :: d.E → q ≠ 73) : d.S e W base (fun k => ok k ∧ k ≠ g) v xs := by
 obtain ⟨A0, c0, hb, hg, hr0⟩ := h
 exact Kd.S_types ho hb ht
theorem IsS73.own_neS {w0 W : World} {g : Nat} {f0 : List Int} {f1 : Int} {α : Type} {d : Kd α} {e : Nat} {base : Nat} {ok : Nat → Prop} {v : Value} {xs : List α} (h : IsS73 w0 W g f0 f1) (ho : d.S e W base ok v xs) (ht : e ≠ 73) : some g ≠ v.ownBlock := by
 obtain ⟨A0, c0, hb, hg, hr0⟩ := h
 exact Kd.S_ne ho hb ht
theorem IsS73.lt {w0 W : World} {g : Nat} {f0 : List Int} {f1 : Int} (h : IsS73 w0 W g f0 f1) : g < W.heap.size := by
 obtain ⟨A0, c0, hb, hg, hr0⟩ := h
 exact blk_lt hb
theorem IsS73.ge {w0 W : World} {g : Nat} {f0 : List Int} {f1 : Int} (h : IsS73 w0 W g f0 f1) : w0.heap.size ≤ g := by
 obtain ⟨A0, c0, hb, hg, hr0⟩ := h
 exact hg
theorem IsS73.ne_blk {w0 W : World} {g : Nat} {f0 : List Int} {f1 : Int} {a : Nat} {cs : Array Value} {t : TypeId} {fr : Nat × Nat} (h : IsS73 w0 W g f0 f1) (hb2 : W.heap[a]? = some (.cells cs t fr)) (ht : t ≠ 73) : g ≠ a := by
 obtain ⟨A0, c0, hb, hg, hr0⟩ := h
 rintro rfl
 rw [hb] at hb2
 injection hb2 with hb2
 injection hb2 with _ ht2
 exact ht ht2.symm
theorem IsS73.far {w0 W : World} {g : Nat} {f0 : List Int} {f1 : Int} {p : Addr} (h : IsS73 w0 W g f0 f1) (hne : g ≠ p.block) (u : Value) : IsS73 w0 (W.setCell p u) g f0 f1 := by
 obtain ⟨A0, c0, hb, hg, hr0⟩ := h
 exact ⟨A0, c0, blk_far hb hne u, hg, hr0⟩
theorem cellS73_0 {W : World} {g : Nat} {A0 : Option Addr} {c0 : Nat} {f0 : List Int} {f1 : Int} (h : W.heap[g]? = some (.cells #[.slice A0 f0.length c0, .int .i64 f1] 73 (0, 0))) : W.cell? ⟨g, 0, none⟩ = some (.slice A0 f0.length c0) := (blk_cell h 0).trans rfl
theorem cellS73_1 {W : World} {g : Nat} {A0 : Option Addr} {c0 : Nat} {f0 : List Int} {f1 : Int} (h : W.heap[g]? = some (.cells #[.slice A0 f0.length c0, .int .i64 f1] 73 (0, 0))) : W.cell? ⟨g, 1, none⟩ = some (.int .i64 f1) := (blk_cell h 1).trans rfl
theorem IsS73.set_1 {w0 W : World} {g : Nat} {f0 : List Int} {f1 : Int} (h : IsS73 w0 W g f0 f1) (x : Int) : IsS73 w0 (W.setCell ⟨g, 1, none⟩ (.int .i64 x)) g f0 x := by
 obtain ⟨A0, c0, hb, hg, hr0⟩ := h
 exact ⟨A0, c0, by simpa using blk_set hb 1 (.int .i64 x), hg, hr0⟩
theorem IsS73.new (w0 W : World) (A0 : Option Addr) (c0 : Nat) (f0 : List Int) (f1 : Int) (hB : Below w0.heap.size w0 W) (hr0 : Kd.C (Kd.int .u8) w0 A0 f0.length f0) : IsS73 w0 (W.alloc (.cells #[.slice A0 f0.length c0, .int .i64 f1] 73)) W.heap.size f0 f1 := ⟨A0, c0, by simpa using heap_alloc_new W _, hB.size, hr0⟩
def spec_l1Open.f (l0 : List Int) : Option (List Int × Int) := some (l0, 0)
theorem spec_l1Open.calls (A0 : Option Addr) (c0 : Nat) (l0 : List Int) (r1 : List Int) (r2 : Int) (w0 w : World) (hB : Below w0.heap.size w0 w) (hr0 : Kd.C (Kd.int .u8) w0 A0 l0.length l0) (hc0 : l0.length ≤ c0) (h : spec_l1Open.f l0 = some (r1, r2)) :
  Calls Tryd.prog 36 #[.slice A0 l0.length c0] w fun e w' => ∃ g_ : Nat, e = .returned (.pointer (some ⟨g_, 0, none⟩)) ∧ IsS73 w0 w' g_ r1 r2 ∧ Below w0.heap.size w0 w' ∧ Below w.heap.size w w' := by
 have hu73 := Tryd.underlying73
 have HR0 := Aside0.mk hr0
 have HC0 := Aside0.mk hc0
 clear hr0 hc0
 have HBW := Aside0.mk (Below.refl w.heap.size w)
 have HW0 := Aside0.mk hB.size
 have HB := Aside0.mk hB
 clear hB
 have H : (some (l0, 0)) = some (r1, r2) := h
 clear h
 simp only [Option.some.injEq, Prod.mk.injEq] at H
 obtain ⟨rfl, rfl⟩ := H
 go_enter Tryd.func36, Tryd.ntmps36
 go_wp2_with (first | ((with_reducible refine gate_dst (N := 5) rfl ?_); refine box_event ?hg (N := 5) ?hd (cs := #[.slice A0 l0.length c0, .int .i64 0]) (t := 73) ?hr ?_; (case hd => rfl); (case hg => rfl); (case hr => exact q118_); intro gb143 hg w2 hbox hb; have n0_ := Aside0.mk (below_step HBW.out hb); have n1_ := Aside0.mk (below_step q56_ hb); have n2_ := Aside0.mk (hbox); have n3_ := Aside0.mk ((q42_ : w.heap.size ≤ gb143)); have n4_ := Aside0.mk ((Nat.le_trans HW0.out (q42_ : w.heap.size ≤ gb143) : w0.heap.size ≤ gb143)); clear HBW; clear HB; have HBW := n0_; have HB := n1_; have BK143 := n2_; have GW143 := n3_; have GE143 := n4_; clear n0_ n1_ n2_ n3_ n4_; clear hb hbox hg))
 go_ret
 exact ⟨_, rfl, (show IsS73 w0 _ gb143 l0 0 from ⟨_, _, by (with_reducible repeat (first | refine blk_drewN ?_ _ | refine blk_drew ?_ | refine blk_alloc ?_ _)); exact BK143.out, GE143.out, HR0.out⟩), by repeat (first | (with_reducible first | exact HB.out | apply below_alloc | apply pw_below_drewN | apply below_drew1 | refine below_set ?_ GE143.out) | exact HB.out), by repeat (first | (with_reducible first | exact HBW.out | apply below_alloc | apply pw_below_drewN | apply below_drew1 | refine below_set ?_ GW143.out) | exact HBW.out)⟩
def spec_l1Rd_next.f (s0_0 : List Int) (s0_1 : Int) : Option (Int × Int) := if s0_1 ≥ (s0_0.length : Int) then (some (0, s0_1)) else (if 0 ≤ (wrap64 ((wrap64 (s0_1 + 1)) - 1)) then (if (wrap64 ((wrap64 (s0_1 + 1)) - 1)) < (s0_0.length : Int) then (some (wrap64 (rd s0_0 (wrap64 ((wrap64 (s0_1 + 1)) - 1))), wrap64 (s0_1 + 1))) else (none)) else (none))
theorem spec_l1Rd_next.calls (g : Nat) (s0_0 : List Int) (s0_1 : Int) (r1 : Int) (r2 : Int) (w0 w : World) (hI : IsS73 w0 w g s0_0 s0_1) (hB : Below w0.heap.size w0 w) (h : spec_l1Rd_next.f s0_0 s0_1 = some (r1, r2)) :
  Calls Tryd.prog 60 #[.pointer (some ⟨g, 0, none⟩)] w fun e w' => e = .returned (.int .i64 r1) ∧ IsS73 w0 w' g s0_0 r2 ∧ Below w0.heap.size w0 w' ∧ KeepBut w w' g none := by
 have HI0 := Aside0.mk hI
 have HK := Aside0.mk (KeepBut.refl w g none)
 have HL := Aside0.mk hB.size
 clear hI
 have HW0 := Aside0.mk hB.size
 have HB := Aside0.mk hB
 clear hB
 have H : (if s0_1 ≥ (s0_0.length : Int) then (some (0, s0_1)) else (if 0 ≤ (wrap64 ((wrap64 (s0_1 + 1)) - 1)) then (if (wrap64 ((wrap64 (s0_1 + 1)) - 1)) < (s0_0.length : Int) then (some (wrap64 (rd s0_0 (wrap64 ((wrap64 (s0_1 + 1)) - 1))), wrap64 (s0_1 + 1))) else (none)) else (none))) = some (r1, r2) := h
 clear h
 by_cases c2 : s0_1 ≥ (s0_0.length : Int)
 ·rw [if_pos c2] at H
  have c2b0 : decide ((s0_0.length : Int) ≤ s0_1) = true := decide_eq_true c2
  clear c2
  simp only [Option.some.injEq, Prod.mk.injEq] at H
  obtain ⟨rfl, rfl⟩ := H
  obtain ⟨ASz3_0, cSz3_0, HGz3, hgz3, HSz3_0⟩ := HI0.out
  have hcz3_0 := cellS73_0 HGz3
  have hcz3_1 := cellS73_1 HGz3
  have hfz3_1 := blk_frozen HGz3 1
  clear HGz3 hgz3
  go_enter Tryd.func60, Tryd.ntmps60
  go_wp2
  repeat (go_quiet (fail); try go_wp2)
  go_ret
  exact ⟨q60_, q52_, q39_, q53_⟩
 ·rw [if_neg c2] at H
  have c2b0 : decide ((s0_0.length : Int) ≤ s0_1) = false := decide_eq_false c2
  clear c2
  obtain ⟨ji4, hji4⟩ : ∃ j_ : Int, (wrap64 ((wrap64 (s0_1 + 1)) - 1)) = j_ := ⟨_, rfl⟩
  replace H : (if 0 ≤ (ji4) then (if (ji4) < (s0_0.length : Int) then (some (wrap64 (rd s0_0 (ji4)), wrap64 (s0_1 + 1))) else (none)) else (none)) = some (r1, r2) := by first | (rw [hji4] at H; exact H) | (simp only [hji4] at H ⊢; exact H)
  have hji4w : (IntKind.i64.wrap ((wrap64 (s0_1 + 1)) - 1)) = ji4 := (i64_w _).trans hji4
  by_cases c5 : 0 ≤ (ji4)
  ·rw [if_pos c5] at H
   have c5b0 : decide (0 ≤ (ji4)) = true := decide_eq_true c5
   clear c5
   by_cases c6 : (ji4) < (s0_0.length : Int)
   ·rw [if_pos c6] at H
    have c6b0 : decide ((ji4) < (s0_0.length : Int)) = true := decide_eq_true c6
    clear c6
    simp only [Option.some.injEq, Prod.mk.injEq] at H
    obtain ⟨rfl, rfl⟩ := H
    obtain ⟨ASz7_0, cSz7_0, HGz7, hgz7, HSz7_0⟩ := HI0.out
    have hcz7_0 := cellS73_0 HGz7
    have hcz7_1 := cellS73_1 HGz7
    have hfz7_1 := blk_frozen HGz7 1
    clear HGz7 hgz7
    have p144 : 0 ≤ ((ji4) : Int) := of_decide_eq_true q87_
    have q144 : (ji4) < (s0_0.length : Int) := of_decide_eq_true q87_
    obtain ⟨ad144, e144, hx144_0⟩ := Kd.at_int HSz7_0 (ji4) p144 q144
    cases e144
    have hn144_0 : ad144.block ≠ g := Nat.ne_of_lt (Nat.lt_of_lt_of_le (by have := World.block_lt_of_cell? _ _ hx144_0; first | rwa [add_block] at this | exact this) (IsS73.ge HI0.out))
    replace hx144_0 := pw_cell_below HB.out hx144_0
    replace hx144_0 := (cell_far (p := ⟨g, 1, none⟩) (by first | (rw [add_block]; exact hn144_0) | (show (Addr.add _ _).block ≠ _; rw [add_block]; exact hn144_0) | exact hn144_0) (.int .i64 (wrap64 (s0_1 + 1)))).trans hx144_0
    (try have hy144_0 := fun (n_ : Nat) => (show (((w.drewN n_).setCell ⟨g, 1, none⟩ (.int .i64 (wrap64 (s0_1 + 1))))).cell? _ = some _ from hx144_0))
    clear hn144_0
    replace p144 := eq_true p144
    replace q144 := eq_true q144
    go_enter Tryd.func60, Tryd.ntmps60
    go_wp2
    repeat (go_quiet (fail); try go_wp2)
    go_ret
    exact ⟨by first | rfl | (simp [errW_none, errW_some] <;> rfl) | (simp only [← hji4]; first | rfl | (simp [errW_none, errW_some] <;> rfl)) | (simp [*, errW_none, errW_some] <;> rfl) | (exfalso; simp_all; done), q52_, q39_, q53_⟩
   ·rw [if_neg c6] at H
    exact absurd H (by simp)
  ·rw [if_neg c5] at H
   exact absurd H (by simp)
def spec_l1Rd_below.f (s0_0 : List Int) (s0_1 : Int) (a1 : Int) : Option (Int × Int) := if a1 ≤ 1 then (some (0, s0_1)) else (if a1 ≤ 256 then ((spec_l1Rd_next.f s0_0 s0_1).bind fun bt145 => (if a1 = 0 then (none) else (some (Int.tmod bt145.1 a1, bt145.2)))) else ((spec_l1Rd_next.f s0_0 s0_1).bind fun bt147 => ((spec_l1Rd_next.f s0_0 bt147.2).bind fun bt149 => (if a1 = 0 then (none) else (some (Int.tmod (wrap64 ((wrap64 (bt147.1 * 256)) + bt149.1)) a1, bt149.2))))))
theorem spec_l1Rd_below.calls (g : Nat) (s0_0 : List Int) (s0_1 : Int) (a1 : Int) (r1 : Int) (r2 : Int) (w0 w : World) (hI : IsS73 w0 w g s0_0 s0_1) (hB : Below w0.heap.size w0 w) (h : spec_l1Rd_below.f s0_0 s0_1 a1 = some (r1, r2)) :
  Calls Tryd.prog 40 #[.pointer (some ⟨g, 0, none⟩), .int .i64 a1] w fun e w' => e = .returned (.int .i64 r1) ∧ IsS73 w0 w' g s0_0 r2 ∧ Below w0.heap.size w0 w' ∧ KeepBut w w' g none := by
 have HI0 := Aside0.mk hI
 have HK := Aside0.mk (KeepBut.refl w g none)
 have HL := Aside0.mk hB.size
 clear hI
 have HW0 := Aside0.mk hB.size
 have HB := Aside0.mk hB
 clear hB
 have H : (if a1 ≤ 1 then (some (0, s0_1)) else (if a1 ≤ 256 then ((spec_l1Rd_next.f s0_0 s0_1).bind fun bt145 => (if a1 = 0 then (none) else (some (Int.tmod bt145.1 a1, bt145.2)))) else ((spec_l1Rd_next.f s0_0 s0_1).bind fun bt147 => ((spec_l1Rd_next.f s0_0 bt147.2).bind fun bt149 => (if a1 = 0 then (none) else (some (Int.tmod (wrap64 ((wrap64 (bt147.1 * 256)) + bt149.1)) a1, bt149.2))))))) = some (r1, r2) := h
 clear h
 by_cases c3 : a1 ≤ 1
 ·rw [if_pos c3] at H
  have c3b0 : decide (a1 ≤ 1) = true := decide_eq_true c3
  clear c3
  simp only [Option.some.injEq, Prod.mk.injEq] at H
  obtain ⟨rfl, rfl⟩ := H
  go_enter Tryd.func40, Tryd.ntmps40
  go_wp2
  go_ret
  exact ⟨q60_, q52_, q39_, q53_⟩
 ·rw [if_neg c3] at H
  have c3b0 : decide (a1 ≤ 1) = false := decide_eq_false c3
  clear c3
  by_cases c4 : a1 ≤ 256
  ·rw [if_pos c4] at H
   have c4b0 : decide (a1 ≤ 256) = true := decide_eq_true c4
   clear c4
   replace H := Option.bind_eq_some_iff.mp H
   obtain ⟨⟨t145, t146⟩, A50, H⟩ := H
   replace H : (if a1 = 0 then (none) else (some (Int.tmod t145 a1, t146))) = some (r1, r2) := H
   have A5 := Aside0.mk A50
   clear A50
   by_cases c6 : a1 = 0
   ·rw [if_pos c6] at H
    exact absurd H (by simp)
   ·rw [if_neg c6] at H
    have c6b0 : (a1 == 0) = false := beq_eq_false_iff_ne.mpr c6
    have c6b1 : (a1 != 0) = true := bne_iff_ne.mpr c6
    simp only [Option.some.injEq, Prod.mk.injEq] at H
    obtain ⟨rfl, rfl⟩ := H
    go_enter Tryd.func40, Tryd.ntmps40
    go_wp2_with (first | ((with_reducible refine gate_callee (f := 60) rfl ?_); refine goesL_ (some 11) rfl rfl Tryd.func60 (by kernel_rfl) rfl #[.pointer (some ⟨g, 0, none⟩)] rfl q55_ ?_; (with_reducible refine (spec_l1Rd_next.calls g s0_0 s0_1 t145 t146 w0 _ ?side1 ?side2 A5.out).mono ?_); (case side1 => exact q116_); (case side2 => exact q114_); rintro e w7 ⟨rfl, hi, hb, hk⟩; refine ⟨_, rfl, ?_⟩; have n0_ := Aside0.mk (KeepBut.trans q53_ hk (.inl rfl)); have n1_ := Aside0.mk (hb); have n2_ := Aside0.mk (hi); clear HK; clear HB; clear HI0; have HK := n0_; have HB := n1_; have HI0 := n2_; clear n0_ n1_ n2_; (try clear hb); (try clear hk); (try clear hi)))
    go_ret
    exact ⟨q60_, q52_, q39_, q53_⟩
  ·rw [if_neg c4] at H
   have c4b0 : decide (a1 ≤ 256) = false := decide_eq_false c4
   clear c4
   replace H := Option.bind_eq_some_iff.mp H
   obtain ⟨⟨t147, t148⟩, A80, H⟩ := H
   replace H : ((spec_l1Rd_next.f s0_0 t148).bind fun bt149 => (if a1 = 0 then (none) else (some (Int.tmod (wrap64 ((wrap64 (t147 * 256)) + bt149.1)) a1, bt149.2)))) = some (r1, r2) := H
   have A8 := Aside0.mk A80
   clear A80
   replace H := Option.bind_eq_some_iff.mp H
   obtain ⟨⟨t149, t150⟩, A90, H⟩ := H
   replace H : (if a1 = 0 then (none) else (some (Int.tmod (wrap64 ((wrap64 (t147 * 256)) + t149)) a1, t150))) = some (r1, r2) := H
   have A9 := Aside0.mk A90
   clear A90
   by_cases c10 : a1 = 0
   ·rw [if_pos c10] at H
    exact absurd H (by simp)
   ·rw [if_neg c10] at H
    have c10b0 : (a1 == 0) = false := beq_eq_false_iff_ne.mpr c10
    have c10b1 : (a1 != 0) = true := bne_iff_ne.mpr c10
    simp only [Option.some.injEq, Prod.mk.injEq] at H
    obtain ⟨rfl, rfl⟩ := H
    go_enter Tryd.func40, Tryd.ntmps40
    go_wp2_with (first | ((with_reducible refine gate_callee (f := 60) rfl ?_); refine goesL_ (some 15) rfl rfl Tryd.func60 (by kernel_rfl) rfl #[.pointer (some ⟨g, 0, none⟩)] rfl q55_ ?_; (with_reducible refine (spec_l1Rd_next.calls g s0_0 s0_1 t147 t148 w0 _ ?side1 ?side2 A8.out).mono ?_); (case side1 => exact q116_); (case side2 => exact q114_); rintro e w11 ⟨rfl, hi, hb, hk⟩; refine ⟨_, rfl, ?_⟩; have n0_ := Aside0.mk (KeepBut.trans q53_ hk (.inl rfl)); have n1_ := Aside0.mk (hb); have n2_ := Aside0.mk (hi); clear HK; clear HB; clear HI0; have HK := n0_; have HB := n1_; have HI0 := n2_; clear n0_ n1_ n2_; (try clear hb); (try clear hk); (try clear hi)) | ((with_reducible refine gate_callee (f := 60) rfl ?_); refine goesL_ (some 19) rfl rfl Tryd.func60 (by kernel_rfl) rfl #[.pointer (some ⟨g, 0, none⟩)] rfl q55_ ?_; (with_reducible refine (spec_l1Rd_next.calls g s0_0 t148 t149 t150 w0 _ ?side1 ?side2 A9.out).mono ?_); (case side1 => exact q116_); (case side2 => exact q114_); rintro e w12 ⟨rfl, hi, hb, hk⟩; refine ⟨_, rfl, ?_⟩; have n0_ := Aside0.mk (KeepBut.trans q53_ hk (.inl rfl)); have n1_ := Aside0.mk (hb); have n2_ := Aside0.mk (hi); clear HK; clear HB; clear HI0; have HK := n0_; have HB := n1_; have HI0 := n2_; clear n0_ n1_ n2_; (try clear hb); (try clear hk); (try clear hi)))
    go_ret
    exact ⟨q60_, q52_, q39_, q53_⟩
def spec_l1Rd_once.f (s0_0 : List Int) (s0_1 : Int) (a1 : Int) : Option (Bool × Int) := (spec_l1Rd_below.f s0_0 s0_1 a1).bind fun bt151 => (some ((bt151.1 == (wrap64 (a1 - 1))), bt151.2))
theorem spec_l1Rd_once.calls (g : Nat) (s0_0 : List Int) (s0_1 : Int) (a1 : Int) (r1 : Bool) (r2 : Int) (w0 w : World) (hI : IsS73 w0 w g s0_0 s0_1) (hB : Below w0.heap.size w0 w) (h : spec_l1Rd_once.f s0_0 s0_1 a1 = some (r1, r2)) :
  Calls Tryd.prog 37 #[.pointer (some ⟨g, 0, none⟩), .int .i64 a1] w fun e w' => e = .returned (.bool r1) ∧ IsS73 w0 w' g s0_0 r2 ∧ Below w0.heap.size w0 w' ∧ KeepBut w w' g none := by
 have HI0 := Aside0.mk hI
 have HK := Aside0.mk (KeepBut.refl w g none)
 have HL := Aside0.mk hB.size
 clear hI
 have HW0 := Aside0.mk hB.size
 have HB := Aside0.mk hB
 clear hB
 have H : ((spec_l1Rd_below.f s0_0 s0_1 a1).bind fun bt151 => (some ((bt151.1 == (wrap64 (a1 - 1))), bt151.2))) = some (r1, r2) := h
 clear h
 replace H := Option.bind_eq_some_iff.mp H
 obtain ⟨⟨t151, t152⟩, A30, H⟩ := H
 replace H : (some ((t151 == (wrap64 (a1 - 1))), t152)) = some (r1, r2) := H
 have A3 := Aside0.mk A30
 clear A30
 simp only [Option.some.injEq, Prod.mk.injEq] at H
 obtain ⟨rfl, rfl⟩ := H
 go_enter Tryd.func37, Tryd.ntmps37
 go_wp2_with (first | ((with_reducible refine gate_callee (f := 40) rfl ?_); refine goesL_ (some 7) rfl rfl Tryd.func40 (by kernel_rfl) rfl #[.pointer (some ⟨g, 0, none⟩), .int .i64 a1] rfl q55_ ?_; (with_reducible refine (spec_l1Rd_below.calls g s0_0 s0_1 a1 t151 t152 w0 _ ?side1 ?side2 A3.out).mono ?_); (case side1 => exact q116_); (case side2 => exact q114_); rintro e w4 ⟨rfl, hi, hb, hk⟩; refine ⟨_, rfl, ?_⟩; have n0_ := Aside0.mk (KeepBut.trans q53_ hk (.inl rfl)); have n1_ := Aside0.mk (hb); have n2_ := Aside0.mk (hi); clear HK; clear HB; clear HI0; have HK := n0_; have HB := n1_; have HI0 := n2_; clear n0_ n1_ n2_; (try clear hb); (try clear hk); (try clear hi)))
 go_ret
 exact ⟨q60_, q52_, q39_, q53_⟩
end Go.Proofs.YtcohcndliaaacaaDoor.QFnHeaders
