/- The machine's side of a law, written by a program of this session for this claim. -/
import Derived.Test.YtcohcndliaaacaaDoorYQq
import Derived.Test.YtcohcndliaaacaaDoorYQFnHeadersx0
import Derived.Test.YtcohcndliaaacaaDoorYQFnHeadersx5
import Derived.Test.YtcohcndliaaacaaDoorYQFnHeadersx10
import Derived.Test.YtcohcndliaaacaaDoorYQFnHeadersx11
namespace Go.Proofs.YtcohcndliaaacaaDoor.QFnHeaders
open Go.Proofs.YtcohcndliaaacaaDoor.Qq
open Go.RowKit Go.Proofs.YtcohcndliaaacaaDoor.LibX Go.Proofs.YtcohcndliaaacaaDoor.LibE Go.Proofs.YtcohcndliaaacaaDoorW.PrintWords Go.Proofs.YtcohcndliaaacaaDoorW.PrintLast Go.Proofs.YtcohcndliaaacaaDoorW.PrintMore
attribute [local go_sem] max2_int min2_int max_two min_two max_three min_three max_four min_four   -- for this text's walks alone
set_option maxHeartbeats 8000000
set_option maxRecDepth 100000
set_option linter.unusedVariables false
set_option linter.unusedSimpArgs false
mutual
def spec_l1Rd_rom.l0 : Nat → Int → List Int → Int → List Int → Int → Option (ByteArray × Int)
 | 0, _, _, _, _, _ => none
 | k + 1, x3, x4, x5, x1000, x1001 => if x5 < x3 then ((spec_l1Rd_below.f x1000 x1001 16).bind fun bt404 => (spec_l1Rd_rom.l1 k x3 x4 x5 (wrap64 (x5 * 256)) (wrap64 (1 + bt404.1)) x1000 bt404.2)) else ((spec_l1Rd_once.f x1000 x1001 30).bind fun bt416 => (if bt416.1 = true then (if 1 ≤ (x4.length : Int) then (some (strOfNums (x4.drop 1), bt416.2)) else (none)) else (some (strOfNums x4, bt416.2))))
def spec_l1Rd_rom.l1 : Nat → Int → List Int → Int → Int → Int → List Int → Int → Option (ByteArray × Int)
 | 0, _, _, _, _, _, _, _ => none
 | k + 1, x3, x4, x5, x6, x7, x1000, x1001 => if x7 > 0 then ((spec_l1Rd_plain.f k x1000 x1001).bind fun bt406 => ((spec_InsBytes.f k bt406.1 bt406.2.1 bt406.2.2.1).bind fun t410 => (if 0 ≤ x6 then (if x6 ≤ (wrap64 ((wrap64 (x5 + 1)) * 256)) then (if (wrap64 ((wrap64 (x5 + 1)) * 256)) ≤ (x4.length : Int) then (spec_l1Rd_rom.l1 k x3 (cpy x4 (x6 : Int).toNat (((wrap64 ((wrap64 (x5 + 1)) * 256)) : Int).toNat - (x6 : Int).toNat) (bytesOf t410)) x5 (wrap64 (x6 + (t410.size : Int))) (wrap64 (x7 - 1)) x1000 bt406.2.2.2) else (none)) else (none)) else (none)))) else (spec_l1Rd_rom.l0 k x3 x4 (wrap64 (x5 + 1)) x1000 x1001)
end
def spec_l1Rd_rom.f (k : Nat) (s0_0 : List Int) (s0_1 : Int) : Option (ByteArray × Int) := (spec_l1Rd_below.f s0_0 s0_1 3).bind fun bt399 => (if 0 ≤ (wrap64 ((wrap64 (2 + bt399.1)) * 256)) then (if (wrap64 ((wrap64 (2 + bt399.1)) * 256) : Int).toNat ≤ 281474976710656 then (spec_l1Rd_rom.l0 k (wrap64 (2 + bt399.1)) (List.replicate (wrap64 ((wrap64 (2 + bt399.1)) * 256) : Int).toNat 0) 0 s0_0 bt399.2) else (none)) else (none))
theorem spec_l1Rd_rom.mono_l : ∀ k, (∀ y0 y1 y2 y3 y4, LeO (spec_l1Rd_rom.l0 k y0 y1 y2 y3 y4) (spec_l1Rd_rom.l0 (k + 1) y0 y1 y2 y3 y4)) ∧ (∀ y0 y1 y2 y3 y4 y5 y6, LeO (spec_l1Rd_rom.l1 k y0 y1 y2 y3 y4 y5 y6) (spec_l1Rd_rom.l1 (k + 1) y0 y1 y2 y3 y4 y5 y6))
 | 0 => ⟨fun _ _ _ _ _ r h => by simp [spec_l1Rd_rom.l0] at h, fun _ _ _ _ _ _ _ r h => by simp [spec_l1Rd_rom.l1] at h⟩
 | k + 1 => by
  obtain ⟨ih0, ih1⟩ := spec_l1Rd_rom.mono_l k
  refine ⟨?_, ?_⟩
  ·intro y0 y1 y2 y3 y4
   unfold spec_l1Rd_rom.l0
   repeat' first
   | (with_reducible first | exact ih0 _ _ _ _ _ | exact ih1 _ _ _ _ _ _ _ | exact spec_InsBytes.mono _ _ _ _ | exact spec_l1Rd_plain.mono _ _ _ | exact LeO.refl _ | exact LeO.none _ | refine LeO.ite ?_ ?_ | refine LeO.bind ?_ (fun _ => ?_))
   | exact ih0 _ _ _ _ _
   | exact ih1 _ _ _ _ _ _ _
   | exact spec_InsBytes.mono _ _ _ _
   | exact spec_l1Rd_plain.mono _ _ _
   | exact LeO.none _
   | refine LeO.ite ?_ ?_
   | refine LeO.bind ?_ (fun _ => ?_)
  ·intro y0 y1 y2 y3 y4 y5 y6
   unfold spec_l1Rd_rom.l1
   repeat' first
   | (with_reducible first | exact ih0 _ _ _ _ _ | exact ih1 _ _ _ _ _ _ _ | exact spec_InsBytes.mono _ _ _ _ | exact spec_l1Rd_plain.mono _ _ _ | exact LeO.refl _ | exact LeO.none _ | refine LeO.ite ?_ ?_ | refine LeO.bind ?_ (fun _ => ?_))
   | exact ih0 _ _ _ _ _
   | exact ih1 _ _ _ _ _ _ _
   | exact spec_InsBytes.mono _ _ _ _
   | exact spec_l1Rd_plain.mono _ _ _
   | exact LeO.none _
   | refine LeO.ite ?_ ?_
   | refine LeO.bind ?_ (fun _ => ?_)
theorem spec_l1Rd_rom.mono : ∀ a0 a1 k, LeO (spec_l1Rd_rom.f k a0 a1) (spec_l1Rd_rom.f (k + 1) a0 a1) := by
 intro a0 a1 k
 obtain ⟨ih0, ih1⟩ := spec_l1Rd_rom.mono_l k
 unfold spec_l1Rd_rom.f
 repeat' first
   | (with_reducible first | exact ih0 _ _ _ _ _ | exact ih1 _ _ _ _ _ _ _ | exact spec_InsBytes.mono _ _ _ _ | exact spec_l1Rd_plain.mono _ _ _ | exact LeO.refl _ | exact LeO.none _ | refine LeO.ite ?_ ?_ | refine LeO.bind ?_ (fun _ => ?_))
   | exact ih0 _ _ _ _ _
   | exact ih1 _ _ _ _ _ _ _
   | exact spec_InsBytes.mono _ _ _ _
   | exact spec_l1Rd_plain.mono _ _ _
   | exact LeO.none _
   | refine LeO.ite ?_ ?_
   | refine LeO.bind ?_ (fun _ => ?_)
theorem spec_l1Rd_rom.calls (k : Nat) (g : Nat) (s0_0 : List Int) (s0_1 : Int) (r1 : ByteArray) (r2 : Int) (w0 w : World) (hI : IsS73 w0 w g s0_0 s0_1) (hB : Below w0.heap.size w0 w) (h : spec_l1Rd_rom.f k s0_0 s0_1 = some (r1, r2)) :
  Calls Tryd.prog 45 #[.pointer (some ⟨g, 0, none⟩)] w fun e w' => e = .returned (.string r1) ∧ IsS73 w0 w' g s0_0 r2 ∧ Below w0.heap.size w0 w' ∧ KeepBut w w' g none := by
 have HI0 := Aside0.mk hI
 have HK := Aside0.mk (KeepBut.refl w g none)
 have HL := Aside0.mk hB.size
 clear hI
 have HW0 := Aside0.mk hB.size
 have HB := Aside0.mk hB
 clear hB
 have H : ((spec_l1Rd_below.f s0_0 s0_1 3).bind fun bt399 => (if 0 ≤ (wrap64 ((wrap64 (2 + bt399.1)) * 256)) then (if (wrap64 ((wrap64 (2 + bt399.1)) * 256) : Int).toNat ≤ 281474976710656 then (spec_l1Rd_rom.l0 k (wrap64 (2 + bt399.1)) (List.replicate (wrap64 ((wrap64 (2 + bt399.1)) * 256) : Int).toNat 0) 0 s0_0 bt399.2) else (none)) else (none))) = some (r1, r2) := h
 clear h
 replace H := Option.bind_eq_some_iff.mp H
 obtain ⟨⟨t399, t400⟩, A20, H⟩ := H
 replace H : (if 0 ≤ (wrap64 ((wrap64 (2 + t399)) * 256)) then (if (wrap64 ((wrap64 (2 + t399)) * 256) : Int).toNat ≤ 281474976710656 then (spec_l1Rd_rom.l0 k (wrap64 (2 + t399)) (List.replicate (wrap64 ((wrap64 (2 + t399)) * 256) : Int).toNat 0) 0 s0_0 t400) else (none)) else (none)) = some (r1, r2) := H
 have A2 := Aside0.mk A20
 clear A20
 obtain ⟨ji3, hji3⟩ : ∃ j_ : Int, (wrap64 ((wrap64 (2 + t399)) * 256)) = j_ := ⟨_, rfl⟩
 replace H : (if 0 ≤ (ji3) then (if (ji3 : Int).toNat ≤ 281474976710656 then (spec_l1Rd_rom.l0 k (wrap64 (2 + t399)) (List.replicate (ji3 : Int).toNat 0) 0 s0_0 t400) else (none)) else (none)) = some (r1, r2) := by first | (rw [hji3] at H; exact H) | (simp only [hji3] at H ⊢; exact H)
 (try rw [hji3] at A2)
 have hji3w : (IntKind.i64.wrap ((wrap64 (2 + t399)) * 256)) = ji3 := (i64_w _).trans hji3
 by_cases c4 : 0 ≤ (ji3)
 ·rw [if_pos c4] at H
  have c4b0 := eq_true c4
  have c4b1 : decide (0 ≤ (ji3)) = true := decide_eq_true c4
  clear c4
  by_cases c5 : (ji3 : Int).toNat ≤ 281474976710656
  ·rw [if_pos c5] at H
   have c5b0 := eq_true c5
   have c5b1 : decide ((ji3 : Int).toNat ≤ 281474976710656) = true := decide_eq_true c5
   clear c5
   obtain ⟨y401, hy401⟩ : ∃ y_ : List Int, y_ = (List.replicate (ji3 : Int).toNat 0) := ⟨_, rfl⟩
   replace H : (spec_l1Rd_rom.l0 k (wrap64 (2 + t399)) y401 0 s0_0 t400) = some (r1, r2) := by first | (rw [hy401]; with_reducible exact H) | (have H2_ := (Option.bind_some _ _).symm.trans H; rw [hy401]; with_reducible exact H2_) | (have H2_ := (Option.bind_some _ _).symm.trans H; with_reducible exact H2_) | with_reducible exact H | (rw [hy401]; exact H) | exact H
   have Ny401 := Aside0.mk hy401
   clear hy401
   have H' := Aside0.mk H
   clear H
   go_enter Tryd.func45, Tryd.ntmps45
   go_wp2_with (first | ((with_reducible refine gate_callee (f := 40) rfl ?_); refine goesL_ (some 10) rfl rfl Tryd.func40 (by kernel_rfl) rfl #[.pointer (some ⟨g, 0, none⟩), .int .i64 3] rfl q55_ ?_; (with_reducible refine (spec_l1Rd_below.calls g s0_0 s0_1 3 t399 t400 w0 _ ?side1 ?side2 A2.out).mono ?_); (case side1 => exact q116_); (case side2 => exact q114_); rintro e w6 ⟨rfl, hi, hb, hk⟩; refine ⟨_, rfl, ?_⟩; have n0_ := Aside0.mk (KeepBut.trans q53_ hk (.inl rfl)); have n1_ := Aside0.mk (hb); have n2_ := Aside0.mk (hi); clear HK; clear HB; clear HI0; have HK := n0_; have HB := n1_; have HI0 := n2_; clear n0_ n1_ n2_; (try clear hb); (try clear hk); (try clear hi)) | ((with_reducible refine gate_dst (N := 14) rfl ?_); refine Kd.R_make (Kd.int .u8) _ 5 rfl (N := 14) rfl 28 _ _ rfl ji3 rfl rfl Tryd.underlying28 (.int .u8 0) 1 info5 rfl (by decide) (by omega) 0 (ok := fun _ => True) (okp := fun _ => True) rfl (fun _ hk => hk) trivial (of_decide_eq_true q87_) (Nat.le_trans (Nat.mul_le_mul_right _ (of_decide_eq_true q87_ : ji3.toNat ≤ 281474976710656)) (by omega)) (Below.refl _ _) (Nat.le_refl _) ?_; intro v402 w7 ho8 hb hg_ hnew_; clear hg_ hnew_; (first | rw [← Ny401.out] at ho8 | (simp only [Int.reduceToNat] at ho8; rw [← Ny401.out] at ho8)); have n0_ := Aside0.mk (Kd.R_lower ho8 (keep_size (w := w) (g := g) (row := none) q53_)); have n1_ := Aside0.mk (IsS73.below q52_ hb); have n2_ := Aside0.mk (KeepBut.trans q53_ (KeepBut.of_below hb g none) (.inl rfl)); have n3_ := Aside0.mk (below_step q39_ hb); clear HI0; clear HK; clear HB; have HO403 := n0_; have HI0 := n1_; have HK := n2_; have HB := n3_; clear n0_ n1_ n2_ n3_; clear hb ho8))
   go_loopg [5] k (fun kq v5 w' => ∃ (x4_1 : List Int) (x5_1 : Int) (x1001_1 : Int), v5 = .int .i64 x5_1 ∧ Aside0 (spec_l1Rd_rom.l0 kq (wrap64 (2 + t399)) x4_1 x5_1 s0_0 x1001_1 = some (r1, r2)) ∧ Aside0 (kq ≤ k) ∧ Aside0 (Kd.R (Kd.int .u8) 5 w' w.heap.size (fun _ => True) v402 x4_1) ∧ Aside0 (IsS73 w0 w' g s0_0 x1001_1) ∧ Aside0 (KeepBut w w' g none) ∧ Aside0 (Below w0.heap.size w0 w'))
   case atStart => exact ⟨(y401), (0), (t400), q74_, q73_, ⟨Nat.le_refl _⟩, ⟨by (with_reducible repeat (first | apply Kd.R_alloc | apply Kd.R_drewN | apply Kd.R_drew)); exact HO403.out⟩, ⟨q52_⟩, ⟨q53_⟩, ⟨q39_⟩⟩
   case round =>
    clear H'
    try clear p2
    try clear c4
    try clear c4b0
    try clear c4b1
    try clear c5
    try clear c5b0
    try clear c5b1
    try clear p6
    obtain ⟨x4_1, x5_1, x1001_1, rfl, HA, HK1, HO_4, HI0, HK, HB⟩ := hrel
    cases gk with
    | zero => exact absurd HA.out (by simp [spec_l1Rd_rom.l0])
    | succ k1 =>
     have H := HA.out
     clear HA
     simp only [spec_l1Rd_rom.l0] at H
     by_cases c9 : x5_1 < (wrap64 (2 + t399))
     ·rw [if_pos c9] at H
      have c9b0 : decide (x5_1 < (wrap64 (2 + t399))) = true := decide_eq_true c9
      clear c9
      replace H := Option.bind_eq_some_iff.mp H
      obtain ⟨⟨t404, t405⟩, A100, H⟩ := H
      replace H : (spec_l1Rd_rom.l1 k1 (wrap64 (2 + t399)) x4_1 x5_1 (wrap64 (x5_1 * 256)) (wrap64 (1 + t404)) s0_0 t405) = some (r1, r2) := H
      have A10 := Aside0.mk A100
      clear A100
      have H' := Aside0.mk H
      clear H
      go_wp2_with (first | ((with_reducible refine gate_callee (f := 40) rfl ?_); refine goesL_ (some 23) rfl rfl Tryd.func40 (by kernel_rfl) rfl #[.pointer (some ⟨g, 0, none⟩), .int .i64 16] rfl q55_ ?_; (with_reducible refine (spec_l1Rd_below.calls g s0_0 x1001_1 16 t404 t405 w0 _ ?side1 ?side2 A10.out).mono ?_); (case side1 => exact q116_); (case side2 => exact q114_); rintro e w11 ⟨rfl, hi, hb, hk⟩; refine ⟨_, rfl, ?_⟩; have n0_ := Aside0.mk (Kd.R_mono (Kd.R_keep (IsS73.apart (show IsS73 w0 _ g s0_0 x1001_1 from by repeat (first | (with_reducible first | exact HI0.out | apply IsS73.alloc | apply IsS73.drewN | apply IsS73.drew | apply IsS73.set_1) | exact HI0.out)) q82_ (by decide)) hk (fun _ h => h.2)) (fun _ h => h.1)); have n1_ := Aside0.mk (KeepBut.trans q53_ hk (.inl rfl)); have n2_ := Aside0.mk (hb); have n3_ := Aside0.mk (hi); clear HO_4; clear HK; clear HB; clear HI0; have HO_4 := n0_; have HK := n1_; have HB := n2_; have HI0 := n3_; clear n0_ n1_ n2_ n3_; (try clear hb); (try clear hk); (try clear hi)))
      go_loopg [6, 7] k1 (fun kq v6 v7 w' => ∃ (x4_2 : List Int) (x6_2 : Int) (x7_2 : Int) (x1001_2 : Int), v6 = .int .i64 x6_2 ∧ v7 = .int .i64 x7_2 ∧ Aside0 (spec_l1Rd_rom.l1 kq (wrap64 (2 + t399)) x4_2 x5_1 x6_2 x7_2 s0_0 x1001_2 = some (r1, r2)) ∧ Aside0 (kq ≤ k1) ∧ Aside0 (Kd.R (Kd.int .u8) 5 w' w.heap.size (fun _ => True) v402 x4_2) ∧ Aside0 (IsS73 w0 w' g s0_0 x1001_2) ∧ Aside0 (KeepBut w w' g none) ∧ Aside0 (Below w0.heap.size w0 w'))
      case atStart => exact ⟨(x4_1), (wrap64 (x5_1 * 256)), (wrap64 (1 + t404)), (t405), q74_, q74_, q73_, ⟨Nat.le_refl _⟩, ⟨q82_⟩, ⟨q52_⟩, ⟨q53_⟩, ⟨q39_⟩⟩
      case round =>
       clear H'
       try clear p2 p2
       try clear c4
       try clear c4b0
       try clear c4b1
       try clear c5
       try clear c5b0
       try clear c5b1
       try clear p6 p6
       try clear c9
       try clear c9b0
       obtain ⟨x4_2, x6_2, x7_2, x1001_2, rfl, rfl, HA, HK2, HO_4, HI0, HK, HB⟩ := hrel
       cases gk with
       | zero => exact absurd HA.out (by simp [spec_l1Rd_rom.l1])
       | succ k2 =>
        have H := HA.out
        clear HA
        simp only [spec_l1Rd_rom.l1] at H
        by_cases c12 : x7_2 > 0
        ·rw [if_pos c12] at H
         have c12b0 : decide (0 < x7_2) = true := decide_eq_true c12
         clear c12
         replace H := Option.bind_eq_some_iff.mp H
         obtain ⟨⟨t406, t407, t408, t409⟩, A130, H⟩ := H
         replace H : ((spec_InsBytes.f k2 t406 t407 t408).bind fun t410 => (if 0 ≤ x6_2 then (if x6_2 ≤ (wrap64 ((wrap64 (x5_1 + 1)) * 256)) then (if (wrap64 ((wrap64 (x5_1 + 1)) * 256)) ≤ (x4_2.length : Int) then (spec_l1Rd_rom.l1 k2 (wrap64 (2 + t399)) (cpy x4_2 (x6_2 : Int).toNat (((wrap64 ((wrap64 (x5_1 + 1)) * 256)) : Int).toNat - (x6_2 : Int).toNat) (bytesOf t410)) x5_1 (wrap64 (x6_2 + (t410.size : Int))) (wrap64 (x7_2 - 1)) s0_0 t409) else (none)) else (none)) else (none))) = some (r1, r2) := H
         have A13 := Aside0.mk A130
         clear A130
         replace H := Option.bind_eq_some_iff.mp H
         obtain ⟨t410, A140, H⟩ := H
         have A14 := Aside0.mk A140
         clear A140
         by_cases c15 : 0 ≤ x6_2
         ·rw [if_pos c15] at H
          have c15b0 := eq_true c15
          have c15b1 : decide (0 ≤ x6_2) = true := decide_eq_true c15
          clear c15
          by_cases c16 : x6_2 ≤ (wrap64 ((wrap64 (x5_1 + 1)) * 256))
          ·rw [if_pos c16] at H
           have c16b0 := eq_true c16
           have c16b1 : decide (x6_2 ≤ (wrap64 ((wrap64 (x5_1 + 1)) * 256))) = true := decide_eq_true c16
           by_cases c17 : (wrap64 ((wrap64 (x5_1 + 1)) * 256)) ≤ (x4_2.length : Int)
           ·rw [if_pos c17] at H
            have c17b0 := eq_true c17
            have c17b1 : decide ((wrap64 ((wrap64 (x5_1 + 1)) * 256)) ≤ (x4_2.length : Int)) = true := decide_eq_true c17
            obtain ⟨y411, hy411⟩ : ∃ y_ : List Int, y_ = ((x4_2.take ((wrap64 ((wrap64 (x5_1 + 1)) * 256)) : Int).toNat).drop (x6_2 : Int).toNat) := ⟨_, rfl⟩
            replace H : (spec_l1Rd_rom.l1 k2 (wrap64 (2 + t399)) (cpy x4_2 (x6_2 : Int).toNat (((wrap64 ((wrap64 (x5_1 + 1)) * 256)) : Int).toNat - (x6_2 : Int).toNat) (bytesOf t410)) x5_1 (wrap64 (x6_2 + (t410.size : Int))) (wrap64 (x7_2 - 1)) s0_0 t409) = some (r1, r2) := by first | (rw [hy411]; with_reducible exact H) | (have H2_ := (Option.bind_some _ _).symm.trans H; rw [hy411]; with_reducible exact H2_) | (have H2_ := (Option.bind_some _ _).symm.trans H; with_reducible exact H2_) | with_reducible exact H | (rw [hy411]; exact H) | exact H
            have Ny411 := Aside0.mk hy411
            clear hy411
            obtain ⟨y415, hy415⟩ : ∃ y_ : List Int, y_ = (cpy x4_2 (x6_2 : Int).toNat (((wrap64 ((wrap64 (x5_1 + 1)) * 256)) : Int).toNat - (x6_2 : Int).toNat) (bytesOf t410)) := ⟨_, rfl⟩
            replace H : (spec_l1Rd_rom.l1 k2 (wrap64 (2 + t399)) y415 x5_1 (wrap64 (x6_2 + (t410.size : Int))) (wrap64 (x7_2 - 1)) s0_0 t409) = some (r1, r2) := by first | (rw [hy415]; with_reducible exact H) | (have H2_ := (Option.bind_some _ _).symm.trans H; rw [hy415]; with_reducible exact H2_) | (have H2_ := (Option.bind_some _ _).symm.trans H; with_reducible exact H2_) | with_reducible exact H | (rw [hy415]; exact H) | exact H
            have Ny415 := Aside0.mk hy415
            clear hy415
            have H' := Aside0.mk H
            clear H
            go_wp2_with (first | ((with_reducible refine gate_callee (f := 65) rfl ?_); refine goesL_ (some 30) rfl rfl Tryd.func65 (by kernel_rfl) rfl #[.pointer (some ⟨g, 0, none⟩)] rfl q55_ ?_; (with_reducible refine (spec_l1Rd_plain.calls k2 g s0_0 x1001_2 t406 t407 t408 t409 w0 _ ?side1 ?side2 A13.out).mono ?_); (case side1 => exact q116_); (case side2 => exact q114_); rintro e w18 ⟨rfl, hi, hb, hk⟩; refine ⟨_, rfl, ?_⟩; have n0_ := Aside0.mk (Kd.R_mono (Kd.R_keep (IsS73.apart (show IsS73 w0 _ g s0_0 x1001_2 from by repeat (first | (with_reducible first | exact HI0.out | apply IsS73.alloc | apply IsS73.drewN | apply IsS73.drew | apply IsS73.set_1) | exact HI0.out)) q82_ (by decide)) hk (fun _ h => h.2)) (fun _ h => h.1)); have n1_ := Aside0.mk (KeepBut.trans q53_ hk (.inl rfl)); have n2_ := Aside0.mk (hb); have n3_ := Aside0.mk (hi); clear HO_4; clear HK; clear HB; clear HI0; have HO_4 := n0_; have HK := n1_; have HB := n2_; have HI0 := n3_; clear n0_ n1_ n2_ n3_; (try clear hb); (try clear hk); (try clear hi)) | ((with_reducible refine gate_callee (f := 64) rfl ?_); refine goesL_ (some 31) rfl rfl Tryd.func64 (by kernel_rfl) rfl #[.agg #[.int .i64 t406, .bool t407, .int .i64 t408]] rfl q55_ ?_; (with_reducible refine (spec_InsBytes.calls k2 t406 t407 t408 t410 _ A14.out).mono ?_); rintro e w19 ⟨rfl, hb⟩; refine ⟨_, rfl, ?_⟩; have n0_ := Aside0.mk (Kd.R_below q82_ hb); have n1_ := Aside0.mk (IsS73.below q52_ hb); have n2_ := Aside0.mk (KeepBut.trans q53_ (KeepBut.of_below hb g none) (.inl rfl)); have n3_ := Aside0.mk (below_step q39_ hb); clear HO_4; clear HI0; clear HK; clear HB; have HO_4 := n0_; have HI0 := n1_; have HK := n2_; have HB := n3_; clear n0_ n1_ n2_ n3_; (try clear hb); obtain ⟨Ao21, co21, eo21⟩ := Kd.R_slice HO_4.out; subst eo21; have q20 : ((wrap64 ((wrap64 (x5_1 + 1)) * 256)) : Int) ≤ ((x4_2.length : Int) : Int) := of_decide_eq_true q87_; obtain ⟨i020, hi020, _, hsz20, _⟩ := info_parts info5; have hroom20 : x4_2.length ≤ co21 := (Kd.R_reads' HO_4.out).2.1; have hC20 : Kd.C (Kd.int .u8) _ Ao21 x4_2.length x4_2 := (Kd.R_reads' HO_4.out).2.2; have ql20 : (x6_2 : Int) ≤ ((wrap64 ((wrap64 (x5_1 + 1)) * 256)) : Int) := of_decide_eq_true q87_; have q020 : (0 : Int) ≤ (x6_2 : Int) := of_decide_eq_true q87_; have hcut20 := cut_mid (P := Tryd.prog) 28 5 .i64 .i64 Tryd.underlying28 hi020 1 hsz20 Ao21 x4_2.length co21 x6_2 (wrap64 ((wrap64 (x5_1 + 1)) * 256)) q020 ql20 q20 hroom20; have hr20 := Kd.C_mid (lo := (x6_2 : Int).toNat) (hi := ((wrap64 ((wrap64 (x5_1 + 1)) * 256)) : Int).toNat) (c := co21) hC20 (by omega) (by omega) hroom20; obtain ⟨A20, hA20⟩ : ∃ A1, A1 = (if co21 = (x6_2 : Int).toNat then Ao21 else (Ao21 : Option Addr).map (·.add ((x6_2 : Int).toNat * 1))) := ⟨_, rfl⟩; obtain ⟨c20, hc20⟩ : ∃ c1, c1 = co21 - (x6_2 : Int).toNat := ⟨_, rfl⟩; have hy20 : y411.length = ((wrap64 ((wrap64 (x5_1 + 1)) * 256)) : Int).toNat - (x6_2 : Int).toNat := (by rw [Ny411.out, List.length_drop, List.length_take] <;> omega); rw [show ((x4_2).take ((wrap64 ((wrap64 (x5_1 + 1)) * 256)) : Int).toNat).drop (x6_2 : Int).toNat = y411 from Ny411.out.symm] at hr20; replace hr20 : Kd.C (Kd.int .u8) _ A20 y411.length y411 := (by rw [hA20]; exact hr20); rw [← hy20, ← hA20, ← hc20] at hcut20; have HR414 := Aside0.mk hr20; have HC414 := Aside0.mk (show y411.length ≤ c20 from by rw [hy20, hc20]; exact Nat.sub_le_sub_right (Nat.le_trans (by omega) hroom20) _); clear hr20 hC20 hroom20 hi020 hsz20 hc20; have KY20 := Aside0.mk hy20; have KA20 := Aside0.mk hA20; clear hy20 hA20; have KL20 := Aside0.mk (show ((wrap64 ((wrap64 (x5_1 + 1)) * 256)) : Int).toNat ≤ x4_2.length from by omega); have KM20 := Aside0.mk (show (x6_2 : Int).toNat ≤ ((wrap64 ((wrap64 (x5_1 + 1)) * 256)) : Int).toNat from by omega); replace q20 := eq_true q20) | ((with_reducible refine gate_builtin (b := .copy) rfl ?_); have e_ := (Kd.R_reads' HO_4.out).1; have hy1_ := KY20.out; have b0_ : (0 : Int) ≤ (x6_2 : Int) := of_decide_eq_true q87_; have b1_ : (x6_2 : Int) ≤ ((wrap64 ((wrap64 (x5_1 + 1)) * 256)) : Int) := of_decide_eq_true q87_; have b2_ : ((wrap64 ((wrap64 (x5_1 + 1)) * 256)) : Int) ≤ ((x4_2.length : Int) : Int) := of_decide_eq_true q87_; have hm_ : y411.length = (((wrap64 ((wrap64 (x5_1 + 1)) * 256)) : Int).toNat - (x6_2 : Int).toNat) := (by omega); have hv_ : cpy x4_2 (x6_2 : Int).toNat y411.length (bytesOf t410) = y415 := (by rw [Ny415.out]; first | done | rw [hm_]); refine R_copy w.heap.size rfl (.tmp 37) _ 28 _ 5 rfl Tryd.underlying28 (by kernel_rfl) (A0 := Ao21) (n := x4_2.length) (c := co21) (m := y411.length) (lo := (x6_2 : Int).toNat) rfl rfl ?hA q82_ ?hl (Below.refl _ _) (keep_size (w := w) (g := g) (row := none) q53_) ?_; (case hA => exact .inr KA20.out); (case hl => omega); intro w22 ho hb hg; rw [hv_] at ho; clear e_ hm_ hv_ hy1_ b0_ b1_ b2_; have n0_ := Aside0.mk (ho); have n1_ := Aside0.mk (IsS73.grown q52_ hg (IsS73.own_ne HI0.out HO_4.out (by decide))); have n2_ := Aside0.mk (below_weaken q39_ HL.out hb); have n3_ := Aside0.mk (KeepBut.trans q53_ (KeepBut.of_grown hg g) (Kd.R_base2 HO_4.out)); clear HO_4; clear HI0; clear HB; clear HK; have HO_4 := n0_; have HI0 := n1_; have HB := n2_; have HK := n3_; clear n0_ n1_ n2_ n3_; clear ho hb hg))
            go_roundg k2
            case measure => have := HK1.out; have := HK2.out; omega
            case rel => exact ⟨(y415), (wrap64 (x6_2 + (t410.size : Int))), (wrap64 (x7_2 - 1)), (t409), q74_, q74_, q73_, ⟨q101_⟩, ⟨q82_⟩, ⟨q52_⟩, ⟨q53_⟩, ⟨q39_⟩⟩
           ·rw [if_neg c17] at H
            exact absurd H (by simp)
          ·rw [if_neg c16] at H
           exact absurd H (by simp)
         ·rw [if_neg c15] at H
          exact absurd H (by simp)
        ·rw [if_neg c12] at H
         have c12b0 : decide (0 < x7_2) = false := decide_eq_false c12
         clear c12
         have H' := Aside0.mk H
         clear H
         go_wp2
         go_roundg k2
         case measure => have := HK1.out; have := HK2.out; omega
         case rel => exact ⟨(x4_2), (wrap64 (x5_1 + 1)), (x1001_2), q74_, q73_, ⟨q101_⟩, ⟨q82_⟩, ⟨q52_⟩, ⟨q53_⟩, ⟨q39_⟩⟩
     ·rw [if_neg c9] at H
      have c9b0 : decide (x5_1 < (wrap64 (2 + t399))) = false := decide_eq_false c9
      clear c9
      replace H := Option.bind_eq_some_iff.mp H
      obtain ⟨⟨t416, t417⟩, A240, H⟩ := H
      replace H : (if t416 = true then (if 1 ≤ (x4_1.length : Int) then (some (strOfNums (x4_1.drop 1), t417)) else (none)) else (some (strOfNums x4_1, t417))) = some (r1, r2) := H
      have A24 := Aside0.mk A240
      clear A240
      by_cases c25 : t416 = true
      ·subst c25
       replace H : (if 1 ≤ (x4_1.length : Int) then (some (strOfNums (x4_1.drop 1), t417)) else (none)) = some (r1, r2) := by rw [if_pos rfl] at H; exact H
       by_cases c26 : 1 ≤ (x4_1.length : Int)
       ·rw [if_pos c26] at H
        have c26b0 := eq_true c26
        have c26b1 : decide (1 ≤ (x4_1.length : Int)) = true := decide_eq_true c26
        clear c26
        obtain ⟨y418, hy418⟩ : ∃ y_ : List Int, y_ = (x4_1.drop 1) := ⟨_, rfl⟩
        replace H : (some (strOfNums y418, t417)) = some (r1, r2) := by first | (rw [hy418]; with_reducible exact H) | (have H2_ := (Option.bind_some _ _).symm.trans H; rw [hy418]; with_reducible exact H2_) | (have H2_ := (Option.bind_some _ _).symm.trans H; with_reducible exact H2_) | with_reducible exact H | (rw [hy418]; exact H) | exact H
        have Ny418 := Aside0.mk hy418
        clear hy418
        simp only [Option.some.injEq, Prod.mk.injEq] at H
        obtain ⟨rfl, rfl⟩ := H
        go_wp2_with (first | ((with_reducible refine gate_callee (f := 37) rfl ?_); refine goesL_ (some 45) rfl rfl Tryd.func37 (by kernel_rfl) rfl #[.pointer (some ⟨g, 0, none⟩), .int .i64 30] rfl q55_ ?_; (with_reducible refine (spec_l1Rd_once.calls g s0_0 x1001_1 30 true t417 w0 _ ?side1 ?side2 A24.out).mono ?_); (case side1 => exact q116_); (case side2 => exact q114_); rintro e w27 ⟨rfl, hi, hb, hk⟩; refine ⟨_, rfl, ?_⟩; have n0_ := Aside0.mk (Kd.R_mono (Kd.R_keep (IsS73.apart (show IsS73 w0 _ g s0_0 x1001_1 from by repeat (first | (with_reducible first | exact HI0.out | apply IsS73.alloc | apply IsS73.drewN | apply IsS73.drew | apply IsS73.set_1) | exact HI0.out)) q82_ (by decide)) hk (fun _ h => h.2)) (fun _ h => h.1)); have n1_ := Aside0.mk (KeepBut.trans q53_ hk (.inl rfl)); have n2_ := Aside0.mk (hb); have n3_ := Aside0.mk (hi); clear HO_4; clear HK; clear HB; clear HI0; have HO_4 := n0_; have HK := n1_; have HB := n2_; have HI0 := n3_; clear n0_ n1_ n2_ n3_; (try clear hb); (try clear hk); (try clear hi); obtain ⟨Ao29, co29, eo29⟩ := Kd.R_slice HO_4.out; subst eo29; have q28 : (1 : Int) ≤ ((x4_1.length : Int) : Int) := of_decide_eq_true q87_; obtain ⟨i028, hi028, _, hsz28, _⟩ := info_parts info5; have hroom28 : x4_1.length ≤ co29 := (Kd.R_reads' HO_4.out).2.1; have hC28 : Kd.C (Kd.int .u8) _ Ao29 x4_1.length x4_1 := (Kd.R_reads' HO_4.out).2.2; have hcut28 := cut_from (P := Tryd.prog) 28 5 .i64 Tryd.underlying28 hi028 1 hsz28 Ao29 x4_1.length co29 1 (by omega) q28; have hr28 := Kd.C_drop (m := (1 : Int).toNat) (c := co29) hC28 (by omega) hroom28; obtain ⟨A28, hA28⟩ : ∃ A1, A1 = (if co29 = (1 : Int).toNat then Ao29 else (Ao29 : Option Addr).map (·.add ((1 : Int).toNat * 1))) := ⟨_, rfl⟩; obtain ⟨c28, hc28⟩ : ∃ c1, c1 = co29 - (1 : Int).toNat := ⟨_, rfl⟩; have hy28 : y418.length = x4_1.length - (1 : Int).toNat := (by rw [Ny418.out, List.length_drop] <;> omega); rw [show (x4_1).drop (1 : Int).toNat = y418 from Ny418.out.symm] at hr28; replace hr28 : Kd.C (Kd.int .u8) _ A28 y418.length y418 := (by rw [hA28]; exact hr28); rw [← hy28, ← hA28, ← hc28] at hcut28; have HR421 := Aside0.mk hr28; have HC421 := Aside0.mk (show y418.length ≤ c28 from by rw [hy28, hc28]; exact Nat.sub_le_sub_right hroom28 _); clear hr28 hC28 hroom28 hi028 hsz28 hc28; have KY28 := Aside0.mk hy28; have KA28 := Aside0.mk hA28; clear hy28 hA28; have KL28 := Aside0.mk (show 1 ≤ x4_1.length from by omega); replace q28 := eq_true q28; have hcv30 := Kd.C_string (P := Tryd.prog) (A := A28) (c := c28) Tryd.underlying28 Tryd.underlying5 Tryd.underlying9 (by repeat (first | (with_reducible exact HR421.out) | (with_reducible refine Kd.C_alloc ?_ _) | (with_reducible refine Kd.C_drewN ?_ _) | (with_reducible refine Kd.C_drew ?_) | exact HR421.out))))
        go_ret
        exact ⟨q28_, q52_, q39_, q53_⟩
       ·rw [if_neg c26] at H
        exact absurd H (by simp)
      ·replace c25 := Bool.eq_false_iff.mpr c25
       subst c25
       replace H : (some (strOfNums x4_1, t417)) = some (r1, r2) := by rw [if_neg (show ¬ (false = true) by decide)] at H; exact H
       simp only [Option.some.injEq, Prod.mk.injEq] at H
       obtain ⟨rfl, rfl⟩ := H
       go_wp2_with (first | ((with_reducible refine gate_callee (f := 37) rfl ?_); refine goesL_ (some 45) rfl rfl Tryd.func37 (by kernel_rfl) rfl #[.pointer (some ⟨g, 0, none⟩), .int .i64 30] rfl q55_ ?_; (with_reducible refine (spec_l1Rd_once.calls g s0_0 x1001_1 30 false t417 w0 _ ?side1 ?side2 A24.out).mono ?_); (case side1 => exact q116_); (case side2 => exact q114_); rintro e w31 ⟨rfl, hi, hb, hk⟩; refine ⟨_, rfl, ?_⟩; have n0_ := Aside0.mk (Kd.R_mono (Kd.R_keep (IsS73.apart (show IsS73 w0 _ g s0_0 x1001_1 from by repeat (first | (with_reducible first | exact HI0.out | apply IsS73.alloc | apply IsS73.drewN | apply IsS73.drew | apply IsS73.set_1) | exact HI0.out)) q82_ (by decide)) hk (fun _ h => h.2)) (fun _ h => h.1)); have n1_ := Aside0.mk (KeepBut.trans q53_ hk (.inl rfl)); have n2_ := Aside0.mk (hb); have n3_ := Aside0.mk (hi); clear HO_4; clear HK; clear HB; clear HI0; have HO_4 := n0_; have HK := n1_; have HB := n2_; have HI0 := n3_; clear n0_ n1_ n2_ n3_; (try clear hb); (try clear hk); (try clear hi); have hcv32 := own_string (P := Tryd.prog) Tryd.underlying28 Tryd.underlying5 Tryd.underlying9 (Kd.own_of_R HO_4.out); have hcvq32 := fun m_ : Nat => own_string (P := Tryd.prog) Tryd.underlying28 Tryd.underlying5 Tryd.underlying9 (Kd.own_of_R (Kd.R_drewN HO_4.out m_))))
       go_ret
       exact ⟨q28_, q52_, q39_, q53_⟩
  ·rw [if_neg c5] at H
   exact absurd H (by simp)
 ·rw [if_neg c4] at H
  exact absurd H (by simp)
end Go.Proofs.YtcohcndliaaacaaDoor.QFnHeaders
