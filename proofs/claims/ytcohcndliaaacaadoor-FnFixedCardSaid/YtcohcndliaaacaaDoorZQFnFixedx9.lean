/- The machine's side of a law, written by a program of this session for this claim. -/
import Derived.Test.YtcohcndliaaacaaDoorZQq
import Derived.Test.YtcohcndliaaacaaDoorZQFnFixedx0
import Derived.Test.YtcohcndliaaacaaDoorZQFnFixedx3
import Derived.Test.YtcohcndliaaacaaDoorZQFnFixedx7
import Derived.Test.YtcohcndliaaacaaDoorZQFnFixedx8
namespace Go.Proofs.YtcohcndliaaacaaDoor.QFnFixed
open Go.Proofs.YtcohcndliaaacaaDoor.Qq
open Go.RowKit Go.Proofs.YtcohcndliaaacaaDoor.LibX Go.Proofs.YtcohcndliaaacaaDoor.LibE Go.Proofs.YtcohcndliaaacaaDoorW.PrintWords Go.Proofs.YtcohcndliaaacaaDoorW.PrintLast Go.Proofs.YtcohcndliaaacaaDoorW.PrintMore
attribute [local go_sem] max2_int min2_int max_two min_two max_three min_three max_four min_four   -- for this text's walks alone
set_option maxHeartbeats 8000000
set_option maxRecDepth 100000
set_option linter.unusedVariables false
set_option linter.unusedSimpArgs false
mutual
def spec_l1Rd_rom.l0 : Nat → Int → List Int → Int → List Int → Int → Option (ByteArray × Int)
 | 0, _, _, _, _, _ => none
 | k + 1, x3, x4, x5, x1000, x1001 => if x5 < x3 then ((spec_l1Rd_below.f x1000 x1001 16).bind fun bt376 => (spec_l1Rd_rom.l1 k x3 x4 x5 (wrap64 (x5 * 256)) (wrap64 (1 + bt376.1)) x1000 bt376.2)) else ((spec_l1Rd_once.f x1000 x1001 30).bind fun bt388 => (if bt388.1 = true then (if 1 ≤ (x4.length : Int) then (some (strOfNums (x4.drop 1), bt388.2)) else (none)) else (some (strOfNums x4, bt388.2))))
def spec_l1Rd_rom.l1 : Nat → Int → List Int → Int → Int → Int → List Int → Int → Option (ByteArray × Int)
 | 0, _, _, _, _, _, _, _ => none
 | k + 1, x3, x4, x5, x6, x7, x1000, x1001 => if x7 > 0 then ((spec_l1Rd_plain.f k x1000 x1001).bind fun bt378 => ((spec_InsBytes.f k bt378.1 bt378.2.1 bt378.2.2.1).bind fun t382 => (if 0 ≤ x6 then (if x6 ≤ (wrap64 ((wrap64 (x5 + 1)) * 256)) then (if (wrap64 ((wrap64 (x5 + 1)) * 256)) ≤ (x4.length : Int) then (spec_l1Rd_rom.l1 k x3 (cpy x4 (x6 : Int).toNat (((wrap64 ((wrap64 (x5 + 1)) * 256)) : Int).toNat - (x6 : Int).toNat) (bytesOf t382)) x5 (wrap64 (x6 + (t382.size : Int))) (wrap64 (x7 - 1)) x1000 bt378.2.2.2) else (none)) else (none)) else (none)))) else (spec_l1Rd_rom.l0 k x3 x4 (wrap64 (x5 + 1)) x1000 x1001)
end
def spec_l1Rd_rom.f (k : Nat) (s0_0 : List Int) (s0_1 : Int) : Option (ByteArray × Int) := (spec_l1Rd_below.f s0_0 s0_1 3).bind fun bt371 => (if 0 ≤ (wrap64 ((wrap64 (2 + bt371.1)) * 256)) then (if (wrap64 ((wrap64 (2 + bt371.1)) * 256) : Int).toNat ≤ 281474976710656 then (spec_l1Rd_rom.l0 k (wrap64 (2 + bt371.1)) (List.replicate (wrap64 ((wrap64 (2 + bt371.1)) * 256) : Int).toNat 0) 0 s0_0 bt371.2) else (none)) else (none))
theorem spec_l1Rd_rom.mono_l : ∀ k, (∀ y0 y1 y2 y3 y4, LeO (spec_l1Rd_rom.l0 k y0 y1 y2 y3 y4) (spec_l1Rd_rom.l0 (k + 1) y0 y1 y2 y3 y4)) ∧ (∀ y0 y1 y2 y3 y4 y5 y6, LeO (spec_l1Rd_rom.l1 k y0 y1 y2 y3 y4 y5 y6) (spec_l1Rd_rom.l1 (k + 1) y0 y1 y2 y3 y4 y5 y6))
 | 0 => ⟨fun _ _ _ _ _ r h => by simp [spec_l1Rd_rom.l0] at h, fun _ _ _ _ _ _ _ r h => by simp [spec_l1Rd_rom.l1] at h⟩
 | k + 1 => by
  obtain ⟨ih0, ih1⟩ := spec_l1Rd_rom.mono_l k
  refine ⟨?_, ?_⟩
  ·intro y0 y1 y2 y3 y4
   unfold spec_l1Rd_rom.l0
   repeat' first
   | (with_reducible first | exact ih0 _ _ _ _ _ | exact ih1 _ _ _ _ _ _ _ | exact spec_InsBytes.mono _ _ _ _ | exact spec_l1Rd_plain.mono _ _ _ | exact LeO.refl _ | exact LeO.none _ | refine LeO.ite ?_ ?_ | refine LeO.bind ?_ (fun _ => ?_))
   | exact ih0 _ _ _ _ _
   | exact ih1 _ _ _ _ _ _ _
   | exact spec_InsBytes.mono _ _ _ _
   | exact spec_l1Rd_plain.mono _ _ _
   | exact LeO.none _
   | refine LeO.ite ?_ ?_
   | refine LeO.bind ?_ (fun _ => ?_)
  ·intro y0 y1 y2 y3 y4 y5 y6
   unfold spec_l1Rd_rom.l1
   repeat' first
   | (with_reducible first | exact ih0 _ _ _ _ _ | exact ih1 _ _ _ _ _ _ _ | exact spec_InsBytes.mono _ _ _ _ | exact spec_l1Rd_plain.mono _ _ _ | exact LeO.refl _ | exact LeO.none _ | refine LeO.ite ?_ ?_ | refine LeO.bind ?_ (fun _ => ?_))
   | exact ih0 _ _ _ _ _
   | exact ih1 _ _ _ _ _ _ _
   | exact spec_InsBytes.mono _ _ _ _
   | exact spec_l1Rd_plain.mono _ _ _
   | exact LeO.none _
   | refine LeO.ite ?_ ?_
   | refine LeO.bind ?_ (fun _ => ?_)
theorem spec_l1Rd_rom.mono : ∀ a0 a1 k, LeO (spec_l1Rd_rom.f k a0 a1) (spec_l1Rd_rom.f (k + 1) a0 a1) := by
 intro a0 a1 k
 obtain ⟨ih0, ih1⟩ := spec_l1Rd_rom.mono_l k
 unfold spec_l1Rd_rom.f
 repeat' first
   | (with_reducible first | exact ih0 _ _ _ _ _ | exact ih1 _ _ _ _ _ _ _ | exact spec_InsBytes.mono _ _ _ _ | exact spec_l1Rd_plain.mono _ _ _ | exact LeO.refl _ | exact LeO.none _ | refine LeO.ite ?_ ?_ | refine LeO.bind ?_ (fun _ => ?_))
   | exact ih0 _ _ _ _ _
   | exact ih1 _ _ _ _ _ _ _
   | exact spec_InsBytes.mono _ _ _ _
   | exact spec_l1Rd_plain.mono _ _ _
   | exact LeO.none _
   | refine LeO.ite ?_ ?_
   | refine LeO.bind ?_ (fun _ => ?_)
theorem spec_l1Rd_rom.calls (k : Nat) (g : Nat) (s0_0 : List Int) (s0_1 : Int) (r1 : ByteArray) (r2 : Int) (w0 w : World) (hI : IsS73 w0 w g s0_0 s0_1) (hB : Below w0.heap.size w0 w) (h : spec_l1Rd_rom.f k s0_0 s0_1 = some (r1, r2)) :
  Calls Tryd.prog 45 #[.pointer (some ⟨g, 0, none⟩)] w fun e w' => e = .returned (.string r1) ∧ IsS73 w0 w' g s0_0 r2 ∧ Below w0.heap.size w0 w' ∧ KeepBut w w' g none := by
 have HI0 := Aside0.mk hI
 have HK := Aside0.mk (KeepBut.refl w g none)
 have HL := Aside0.mk hB.size
 clear hI
 have HW0 := Aside0.mk hB.size
 have HB := Aside0.mk hB
 clear hB
 have H : ((spec_l1Rd_below.f s0_0 s0_1 3).bind fun bt371 => (if 0 ≤ (wrap64 ((wrap64 (2 + bt371.1)) * 256)) then (if (wrap64 ((wrap64 (2 + bt371.1)) * 256) : Int).toNat ≤ 281474976710656 then (spec_l1Rd_rom.l0 k (wrap64 (2 + bt371.1)) (List.replicate (wrap64 ((wrap64 (2 + bt371.1)) * 256) : Int).toNat 0) 0 s0_0 bt371.2) else (none)) else (none))) = some (r1, r2) := h
 clear h
 replace H := Option.bind_eq_some_iff.mp H
 obtain ⟨⟨t371, t372⟩, A20, H⟩ := H
 replace H : (if 0 ≤ (wrap64 ((wrap64 (2 + t371)) * 256)) then (if (wrap64 ((wrap64 (2 + t371)) * 256) : Int).toNat ≤ 281474976710656 then (spec_l1Rd_rom.l0 k (wrap64 (2 + t371)) (List.replicate (wrap64 ((wrap64 (2 + t371)) * 256) : Int).toNat 0) 0 s0_0 t372) else (none)) else (none)) = some (r1, r2) := H
 have A2 := Aside0.mk A20
 clear A20
 obtain ⟨ji3, hji3⟩ : ∃ j_ : Int, (wrap64 ((wrap64 (2 + t371)) * 256)) = j_ := ⟨_, rfl⟩
 replace H : (if 0 ≤ (ji3) then (if (ji3 : Int).toNat ≤ 281474976710656 then (spec_l1Rd_rom.l0 k (wrap64 (2 + t371)) (List.replicate (ji3 : Int).toNat 0) 0 s0_0 t372) else (none)) else (none)) = some (r1, r2) := by first | (rw [hji3] at H; exact H) | (simp only [hji3] at H ⊢; exact H)
 (try rw [hji3] at A2)
 have hji3w : (IntKind.i64.wrap ((wrap64 (2 + t371)) * 256)) = ji3 := (i64_w _).trans hji3
 by_cases c4 : 0 ≤ (ji3)
 ·rw [if_pos c4] at H
  have c4b0 := eq_true c4
  have c4b1 : decide (0 ≤ (ji3)) = true := decide_eq_true c4
  clear c4
  by_cases c5 : (ji3 : Int).toNat ≤ 281474976710656
  ·rw [if_pos c5] at H
   have c5b0 := eq_true c5
   have c5b1 : decide ((ji3 : Int).toNat ≤ 281474976710656) = true := decide_eq_true c5
   clear c5
   obtain ⟨y373, hy373⟩ : ∃ y_ : List Int, y_ = (List.replicate (ji3 : Int).toNat 0) := ⟨_, rfl⟩
   replace H : (spec_l1Rd_rom.l0 k (wrap64 (2 + t371)) y373 0 s0_0 t372) = some (r1, r2) := by first | (rw [hy373]; with_reducible exact H) | (have H2_ := (Option.bind_some _ _).symm.trans H; rw [hy373]; with_reducible exact H2_) | (have H2_ := (Option.bind_some _ _).symm.trans H; with_reducible exact H2_) | with_reducible exact H | (rw [hy373]; exact H) | exact H
   have Ny373 := Aside0.mk hy373
   clear hy373
   have H' := Aside0.mk H
   clear H
   go_enter Tryd.func45, Tryd.ntmps45
   go_wp2_with (first | ((with_reducible refine gate_callee (f := 40) rfl ?_); refine goesL_ (some 10) rfl rfl Tryd.func40 (by kernel_rfl) rfl #[.pointer (some ⟨g, 0, none⟩), .int .i64 3] rfl q43_ ?_; (with_reducible refine (spec_l1Rd_below.calls g s0_0 s0_1 3 t371 t372 w0 _ ?side1 ?side2 A2.out).mono ?_); (case side1 => exact q98_); (case side2 => exact q95_); rintro e w6 ⟨rfl, hi, hb, hk⟩; refine ⟨_, rfl, ?_⟩; have n0_ := Aside0.mk (KeepBut.trans q42_ hk (.inl rfl)); have n1_ := Aside0.mk (hb); have n2_ := Aside0.mk (hi); clear HK; clear HB; clear HI0; have HK := n0_; have HB := n1_; have HI0 := n2_; clear n0_ n1_ n2_; (try clear hb); (try clear hk); (try clear hi)) | ((with_reducible refine gate_dst (N := 14) rfl ?_); refine Kd.R_make (Kd.int .u8) _ 5 rfl (N := 14) rfl 28 _ _ rfl ji3 rfl rfl Tryd.underlying28 (.int .u8 0) 1 info5 rfl (by decide) (by omega) 0 (ok := fun _ => True) (okp := fun _ => True) rfl (fun _ hk => hk) trivial (of_decide_eq_true q71_) (Nat.le_trans (Nat.mul_le_mul_right _ (of_decide_eq_true q71_ : ji3.toNat ≤ 281474976710656)) (by omega)) (Below.refl _ _) (Nat.le_refl _) ?_; intro v374 w7 ho8 hb hg_ hnew_; clear hg_ hnew_; (first | rw [← Ny373.out] at ho8 | (simp only [Int.reduceToNat] at ho8; rw [← Ny373.out] at ho8)); have n0_ := Aside0.mk (Kd.R_lower ho8 (keep_size (w := w) (g := g) (row := none) q42_)); have n1_ := Aside0.mk (IsS73.below q41_ hb); have n2_ := Aside0.mk (KeepBut.trans q42_ (KeepBut.of_below hb g none) (.inl rfl)); have n3_ := Aside0.mk (below_step q30_ hb); clear HI0; clear HK; clear HB; have HO375 := n0_; have HI0 := n1_; have HK := n2_; have HB := n3_; clear n0_ n1_ n2_ n3_; clear hb ho8))
   go_loopg [5] k (fun kq v5 w' => ∃ (x4_1 : List Int) (x5_1 : Int) (x1001_1 : Int), v5 = .int .i64 x5_1 ∧ Aside0 (spec_l1Rd_rom.l0 kq (wrap64 (2 + t371)) x4_1 x5_1 s0_0 x1001_1 = some (r1, r2)) ∧ Aside0 (kq ≤ k) ∧ Aside0 (Kd.R (Kd.int .u8) 5 w' w.heap.size (fun _ => True) v374 x4_1) ∧ Aside0 (IsS73 w0 w' g s0_0 x1001_1) ∧ Aside0 (KeepBut w w' g none) ∧ Aside0 (Below w0.heap.size w0 w'))
   case atStart => exact ⟨(y373), (0), (t372), q60_, q59_, ⟨Nat.le_refl _⟩, ⟨by (with_reducible repeat (first | apply Kd.R_alloc | apply Kd.R_drewN | apply Kd.R_drew)); exact HO375.out⟩, ⟨q41_⟩, ⟨q42_⟩, ⟨q30_⟩⟩
   case round =>
    clear H'
    try clear p2
    try clear c4
    try clear c4b0
    try clear c4b1
    try clear c5
    try clear c5b0
    try clear c5b1
    try clear p6
    obtain ⟨x4_1, x5_1, x1001_1, rfl, HA, HK1, HO_4, HI0, HK, HB⟩ := hrel
    cases gk with
    | zero => exact absurd HA.out (by simp [spec_l1Rd_rom.l0])
    | succ k1 =>
     have H := HA.out
     clear HA
     simp only [spec_l1Rd_rom.l0] at H
     by_cases c9 : x5_1 < (wrap64 (2 + t371))
     ·rw [if_pos c9] at H
      have c9b0 : decide (x5_1 < (wrap64 (2 + t371))) = true := decide_eq_true c9
      clear c9
      replace H := Option.bind_eq_some_iff.mp H
      obtain ⟨⟨t376, t377⟩, A100, H⟩ := H
      replace H : (spec_l1Rd_rom.l1 k1 (wrap64 (2 + t371)) x4_1 x5_1 (wrap64 (x5_1 * 256)) (wrap64 (1 + t376)) s0_0 t377) = some (r1, r2) := H
      have A10 := Aside0.mk A100
      clear A100
      have H' := Aside0.mk H
      clear H
      go_wp2_with (first | ((with_reducible refine gate_callee (f := 40) rfl ?_); refine goesL_ (some 23) rfl rfl Tryd.func40 (by kernel_rfl) rfl #[.pointer (some ⟨g, 0, none⟩), .int .i64 16] rfl q43_ ?_; (with_reducible refine (spec_l1Rd_below.calls g s0_0 x1001_1 16 t376 t377 w0 _ ?side1 ?side2 A10.out).mono ?_); (case side1 => exact q98_); (case side2 => exact q95_); rintro e w11 ⟨rfl, hi, hb, hk⟩; refine ⟨_, rfl, ?_⟩; have n0_ := Aside0.mk (Kd.R_mono (Kd.R_keep (IsS73.apart (show IsS73 w0 _ g s0_0 x1001_1 from by repeat (first | (with_reducible first | exact HI0.out | apply IsS73.alloc | apply IsS73.drewN | apply IsS73.drew | apply IsS73.set_1) | exact HI0.out)) q67_ (by decide)) hk (fun _ h => h.2)) (fun _ h => h.1)); have n1_ := Aside0.mk (KeepBut.trans q42_ hk (.inl rfl)); have n2_ := Aside0.mk (hb); have n3_ := Aside0.mk (hi); clear HO_4; clear HK; clear HB; clear HI0; have HO_4 := n0_; have HK := n1_; have HB := n2_; have HI0 := n3_; clear n0_ n1_ n2_ n3_; (try clear hb); (try clear hk); (try clear hi)))
      go_loopg [6, 7] k1 (fun kq v6 v7 w' => ∃ (x4_2 : List Int) (x6_2 : Int) (x7_2 : Int) (x1001_2 : Int), v6 = .int .i64 x6_2 ∧ v7 = .int .i64 x7_2 ∧ Aside0 (spec_l1Rd_rom.l1 kq (wrap64 (2 + t371)) x4_2 x5_1 x6_2 x7_2 s0_0 x1001_2 = some (r1, r2)) ∧ Aside0 (kq ≤ k1) ∧ Aside0 (Kd.R (Kd.int .u8) 5 w' w.heap.size (fun _ => True) v374 x4_2) ∧ Aside0 (IsS73 w0 w' g s0_0 x1001_2) ∧ Aside0 (KeepBut w w' g none) ∧ Aside0 (Below w0.heap.size w0 w'))
      case atStart => exact ⟨(x4_1), (wrap64 (x5_1 * 256)), (wrap64 (1 + t376)), (t377), q60_, q60_, q59_, ⟨Nat.le_refl _⟩, ⟨q67_⟩, ⟨q41_⟩, ⟨q42_⟩, ⟨q30_⟩⟩
      case round =>
       clear H'
       try clear p2 p2
       try clear c4
       try clear c4b0
       try clear c4b1
       try clear c5
       try clear c5b0
       try clear c5b1
       try clear p6 p6
       try clear c9
       try clear c9b0
       obtain ⟨x4_2, x6_2, x7_2, x1001_2, rfl, rfl, HA, HK2, HO_4, HI0, HK, HB⟩ := hrel
       cases gk with
       | zero => exact absurd HA.out (by simp [spec_l1Rd_rom.l1])
       | succ k2 =>
        have H := HA.out
        clear HA
        simp only [spec_l1Rd_rom.l1] at H
        by_cases c12 : x7_2 > 0
        ·rw [if_pos c12] at H
         have c12b0 : decide (0 < x7_2) = true := decide_eq_true c12
         clear c12
         replace H := Option.bind_eq_some_iff.mp H
         obtain ⟨⟨t378, t379, t380, t381⟩, A130, H⟩ := H
         replace H : ((spec_InsBytes.f k2 t378 t379 t380).bind fun t382 => (if 0 ≤ x6_2 then (if x6_2 ≤ (wrap64 ((wrap64 (x5_1 + 1)) * 256)) then (if (wrap64 ((wrap64 (x5_1 + 1)) * 256)) ≤ (x4_2.length : Int) then (spec_l1Rd_rom.l1 k2 (wrap64 (2 + t371)) (cpy x4_2 (x6_2 : Int).toNat (((wrap64 ((wrap64 (x5_1 + 1)) * 256)) : Int).toNat - (x6_2 : Int).toNat) (bytesOf t382)) x5_1 (wrap64 (x6_2 + (t382.size : Int))) (wrap64 (x7_2 - 1)) s0_0 t381) else (none)) else (none)) else (none))) = some (r1, r2) := H
         have A13 := Aside0.mk A130
         clear A130
         replace H := Option.bind_eq_some_iff.mp H
         obtain ⟨t382, A140, H⟩ := H
         have A14 := Aside0.mk A140
         clear A140
         by_cases c15 : 0 ≤ x6_2
         ·rw [if_pos c15] at H
          have c15b0 := eq_true c15
          have c15b1 : decide (0 ≤ x6_2) = true := decide_eq_true c15
          clear c15
          by_cases c16 : x6_2 ≤ (wrap64 ((wrap64 (x5_1 + 1)) * 256))
          ·rw [if_pos c16] at H
           have c16b0 := eq_true c16
           have c16b1 : decide (x6_2 ≤ (wrap64 ((wrap64 (x5_1 + 1)) * 256))) = true := decide_eq_true c16
           by_cases c17 : (wrap64 ((wrap64 (x5_1 + 1)) * 256)) ≤ (x4_2.length : Int)
           ·rw [if_pos c17] at H
            have c17b0 := eq_true c17
            have c17b1 : decide ((wrap64 ((wrap64 (x5_1 + 1)) * 256)) ≤ (x4_2.length : Int)) = true := decide_eq_true c17
            obtain ⟨y383, hy383⟩ : ∃ y_ : List Int, y_ = ((x4_2.take ((wrap64 ((wrap64 (x5_1 + 1)) * 256)) : Int).toNat).drop (x6_2 : Int).toNat) := ⟨_, rfl⟩
            replace H : (spec_l1Rd_rom.l1 k2 (wrap64 (2 + t371)) (cpy x4_2 (x6_2 : Int).toNat (((wrap64 ((wrap64 (x5_1 + 1)) * 256)) : Int).toNat - (x6_2 : Int).toNat) (bytesOf t382)) x5_1 (wrap64 (x6_2 + (t382.size : Int))) (wrap64 (x7_2 - 1)) s0_0 t381) = some (r1, r2) := by first | (rw [hy383]; with_reducible exact H) | (have H2_ := (Option.bind_some _ _).symm.trans H; rw [hy383]; with_reducible exact H2_) | (have H2_ := (Option.bind_some _ _).symm.trans H; with_reducible exact H2_) | with_reducible exact H | (rw [hy383]; exact H) | exact H
            have Ny383 := Aside0.mk hy383
            clear hy383
            obtain ⟨y387, hy387⟩ : ∃ y_ : List Int, y_ = (cpy x4_2 (x6_2 : Int).toNat (((wrap64 ((wrap64 (x5_1 + 1)) * 256)) : Int).toNat - (x6_2 : Int).toNat) (bytesOf t382)) := ⟨_, rfl⟩
            replace H : (spec_l1Rd_rom.l1 k2 (wrap64 (2 + t371)) y387 x5_1 (wrap64 (x6_2 + (t382.size : Int))) (wrap64 (x7_2 - 1)) s0_0 t381) = some (r1, r2) := by first | (rw [hy387]; with_reducible exact H) | (have H2_ := (Option.bind_some _ _).symm.trans H; rw [hy387]; with_reducible exact H2_) | (have H2_ := (Option.bind_some _ _).symm.trans H; with_reducible exact H2_) | with_reducible exact H | (rw [hy387]; exact H) | exact H
            have Ny387 := Aside0.mk hy387
            clear hy387
            have H' := Aside0.mk H
            clear H
            go_wp2_with (first | ((with_reducible refine gate_callee (f := 65) rfl ?_); refine goesL_ (some 30) rfl rfl Tryd.func65 (by kernel_rfl) rfl #[.pointer (some ⟨g, 0, none⟩)] rfl q43_ ?_; (with_reducible refine (spec_l1Rd_plain.calls k2 g s0_0 x1001_2 t378 t379 t380 t381 w0 _ ?side1 ?side2 A13.out).mono ?_); (case side1 => exact q98_); (case side2 => exact q95_); rintro e w18 ⟨rfl, hi, hb, hk⟩; refine ⟨_, rfl, ?_⟩; have n0_ := Aside0.mk (Kd.R_mono (Kd.R_keep (IsS73.apart (show IsS73 w0 _ g s0_0 x1001_2 from by repeat (first | (with_reducible first | exact HI0.out | apply IsS73.alloc | apply IsS73.drewN | apply IsS73.drew | apply IsS73.set_1) | exact HI0.out)) q67_ (by decide)) hk (fun _ h => h.2)) (fun _ h => h.1)); have n1_ := Aside0.mk (KeepBut.trans q42_ hk (.inl rfl)); have n2_ := Aside0.mk (hb); have n3_ := Aside0.mk (hi); clear HO_4; clear HK; clear HB; clear HI0; have HO_4 := n0_; have HK := n1_; have HB := n2_; have HI0 := n3_; clear n0_ n1_ n2_ n3_; (try clear hb); (try clear hk); (try clear hi)) | ((with_reducible refine gate_callee (f := 64) rfl ?_); refine goesL_ (some 31) rfl rfl Tryd.func64 (by kernel_rfl) rfl #[.agg #[.int .i64 t378, .bool t379, .int .i64 t380]] rfl q43_ ?_; (with_reducible refine (spec_InsBytes.calls k2 t378 t379 t380 t382 _ A14.out).mono ?_); rintro e w19 ⟨rfl, hb⟩; refine ⟨_, rfl, ?_⟩; have n0_ := Aside0.mk (Kd.R_below q67_ hb); have n1_ := Aside0.mk (IsS73.below q41_ hb); have n2_ := Aside0.mk (KeepBut.trans q42_ (KeepBut.of_below hb g none) (.inl rfl)); have n3_ := Aside0.mk (below_step q30_ hb); clear HO_4; clear HI0; clear HK; clear HB; have HO_4 := n0_; have HI0 := n1_; have HK := n2_; have HB := n3_; clear n0_ n1_ n2_ n3_; (try clear hb); obtain ⟨Ao21, co21, eo21⟩ := Kd.R_slice HO_4.out; subst eo21; have q20 : ((wrap64 ((wrap64 (x5_1 + 1)) * 256)) : Int) ≤ ((x4_2.length : Int) : Int) := of_decide_eq_true q71_; obtain ⟨i020, hi020, _, hsz20, _⟩ := info_parts info5; have hroom20 : x4_2.length ≤ co21 := (Kd.R_reads' HO_4.out).2.1; have hC20 : Kd.C (Kd.int .u8) _ Ao21 x4_2.length x4_2 := (Kd.R_reads' HO_4.out).2.2; have ql20 : (x6_2 : Int) ≤ ((wrap64 ((wrap64 (x5_1 + 1)) * 256)) : Int) := of_decide_eq_true q71_; have q020 : (0 : Int) ≤ (x6_2 : Int) := of_decide_eq_true q71_; have hcut20 := cut_mid (P := Tryd.prog) 28 5 .i64 .i64 Tryd.underlying28 hi020 1 hsz20 Ao21 x4_2.length co21 x6_2 (wrap64 ((wrap64 (x5_1 + 1)) * 256)) q020 ql20 q20 hroom20; have hr20 := Kd.C_mid (lo := (x6_2 : Int).toNat) (hi := ((wrap64 ((wrap64 (x5_1 + 1)) * 256)) : Int).toNat) (c := co21) hC20 (by omega) (by omega) hroom20; obtain ⟨A20, hA20⟩ : ∃ A1, A1 = (if co21 = (x6_2 : Int).toNat then Ao21 else (Ao21 : Option Addr).map (·.add ((x6_2 : Int).toNat * 1))) := ⟨_, rfl⟩; obtain ⟨c20, hc20⟩ : ∃ c1, c1 = co21 - (x6_2 : Int).toNat := ⟨_, rfl⟩; have hy20 : y383.length = ((wrap64 ((wrap64 (x5_1 + 1)) * 256)) : Int).toNat - (x6_2 : Int).toNat := (by rw [Ny383.out, List.length_drop, List.length_take] <;> omega); rw [show ((x4_2).take ((wrap64 ((wrap64 (x5_1 + 1)) * 256)) : Int).toNat).drop (x6_2 : Int).toNat = y383 from Ny383.out.symm] at hr20; replace hr20 : Kd.C (Kd.int .u8) _ A20 y383.length y383 := (by rw [hA20]; exact hr20); rw [← hy20, ← hA20, ← hc20] at hcut20; have HR386 := Aside0.mk hr20; have HC386 := Aside0.mk (show y383.length ≤ c20 from by rw [hy20, hc20]; exact Nat.sub_le_sub_right (Nat.le_trans (by omega) hroom20) _); clear hr20 hC20 hroom20 hi020 hsz20 hc20; have KY20 := Aside0.mk hy20; have KA20 := Aside0.mk hA20; clear hy20 hA20; have KL20 := Aside0.mk (show ((wrap64 ((wrap64 (x5_1 + 1)) * 256)) : Int).toNat ≤ x4_2.length from by omega); have KM20 := Aside0.mk (show (x6_2 : Int).toNat ≤ ((wrap64 ((wrap64 (x5_1 + 1)) * 256)) : Int).toNat from by omega); replace q20 := eq_true q20) | ((with_reducible refine gate_builtin (b := .copy) rfl ?_); have e_ := (Kd.R_reads' HO_4.out).1; have hy1_ := KY20.out; have b0_ : (0 : Int) ≤ (x6_2 : Int) := of_decide_eq_true q71_; have b1_ : (x6_2 : Int) ≤ ((wrap64 ((wrap64 (x5_1 + 1)) * 256)) : Int) := of_decide_eq_true q71_; have b2_ : ((wrap64 ((wrap64 (x5_1 + 1)) * 256)) : Int) ≤ ((x4_2.length : Int) : Int) := of_decide_eq_true q71_; have hm_ : y383.length = (((wrap64 ((wrap64 (x5_1 + 1)) * 256)) : Int).toNat - (x6_2 : Int).toNat) := (by omega); have hv_ : cpy x4_2 (x6_2 : Int).toNat y383.length (bytesOf t382) = y387 := (by rw [Ny387.out]; first | done | rw [hm_]); refine R_copy w.heap.size rfl (.tmp 37) _ 28 _ 5 rfl Tryd.underlying28 (by kernel_rfl) (A0 := Ao21) (n := x4_2.length) (c := co21) (m := y383.length) (lo := (x6_2 : Int).toNat) rfl rfl ?hA q67_ ?hl (Below.refl _ _) (keep_size (w := w) (g := g) (row := none) q42_) ?_; (case hA => exact .inr KA20.out); (case hl => omega); intro w22 ho hb hg; rw [hv_] at ho; clear e_ hm_ hv_ hy1_ b0_ b1_ b2_; have n0_ := Aside0.mk (ho); have n1_ := Aside0.mk (IsS73.grown q41_ hg (IsS73.own_ne HI0.out HO_4.out (by decide))); have n2_ := Aside0.mk (below_weaken q30_ HL.out hb); have n3_ := Aside0.mk (KeepBut.trans q42_ (KeepBut.of_grown hg g) (Kd.R_base2 HO_4.out)); clear HO_4; clear HI0; clear HB; clear HK; have HO_4 := n0_; have HI0 := n1_; have HB := n2_; have HK := n3_; clear n0_ n1_ n2_ n3_; clear ho hb hg))
            go_roundg k2
            case measure => have := HK1.out; have := HK2.out; omega
            case rel => exact ⟨(y387), (wrap64 (x6_2 + (t382.size : Int))), (wrap64 (x7_2 - 1)), (t381), q60_, q60_, q59_, ⟨q83_⟩, ⟨q67_⟩, ⟨q41_⟩, ⟨q42_⟩, ⟨q30_⟩⟩
           ·rw [if_neg c17] at H
            exact absurd H (by simp)
          ·rw [if_neg c16] at H
           exact absurd H (by simp)
         ·rw [if_neg c15] at H
          exact absurd H (by simp)
        ·rw [if_neg c12] at H
         have c12b0 : decide (0 < x7_2) = false := decide_eq_false c12
         clear c12
         have H' := Aside0.mk H
         clear H
         go_wp2
         go_roundg k2
         case measure => have := HK1.out; have := HK2.out; omega
         case rel => exact ⟨(x4_2), (wrap64 (x5_1 + 1)), (x1001_2), q60_, q59_, ⟨q83_⟩, ⟨q67_⟩, ⟨q41_⟩, ⟨q42_⟩, ⟨q30_⟩⟩
     ·rw [if_neg c9] at H
      have c9b0 : decide (x5_1 < (wrap64 (2 + t371))) = false := decide_eq_false c9
      clear c9
      replace H := Option.bind_eq_some_iff.mp H
      obtain ⟨⟨t388, t389⟩, A240, H⟩ := H
      replace H : (if t388 = true then (if 1 ≤ (x4_1.length : Int) then (some (strOfNums (x4_1.drop 1), t389)) else (none)) else (some (strOfNums x4_1, t389))) = some (r1, r2) := H
      have A24 := Aside0.mk A240
      clear A240
      by_cases c25 : t388 = true
      ·subst c25
       replace H : (if 1 ≤ (x4_1.length : Int) then (some (strOfNums (x4_1.drop 1), t389)) else (none)) = some (r1, r2) := by rw [if_pos rfl] at H; exact H
       by_cases c26 : 1 ≤ (x4_1.length : Int)
       ·rw [if_pos c26] at H
        have c26b0 := eq_true c26
        have c26b1 : decide (1 ≤ (x4_1.length : Int)) = true := decide_eq_true c26
        clear c26
        obtain ⟨y390, hy390⟩ : ∃ y_ : List Int, y_ = (x4_1.drop 1) := ⟨_, rfl⟩
        replace H : (some (strOfNums y390, t389)) = some (r1, r2) := by first | (rw [hy390]; with_reducible exact H) | (have H2_ := (Option.bind_some _ _).symm.trans H; rw [hy390]; with_reducible exact H2_) | (have H2_ := (Option.bind_some _ _).symm.trans H; with_reducible exact H2_) | with_reducible exact H | (rw [hy390]; exact H) | exact H
        have Ny390 := Aside0.mk hy390
        clear hy390
        simp only [Option.some.injEq, Prod.mk.injEq] at H
        obtain ⟨rfl, rfl⟩ := H
        go_wp2_with (first | ((with_reducible refine gate_callee (f := 37) rfl ?_); refine goesL_ (some 45) rfl rfl Tryd.func37 (by kernel_rfl) rfl #[.pointer (some ⟨g, 0, none⟩), .int .i64 30] rfl q43_ ?_; (with_reducible refine (spec_l1Rd_once.calls g s0_0 x1001_1 30 true t389 w0 _ ?side1 ?side2 A24.out).mono ?_); (case side1 => exact q98_); (case side2 => exact q95_); rintro e w27 ⟨rfl, hi, hb, hk⟩; refine ⟨_, rfl, ?_⟩; have n0_ := Aside0.mk (Kd.R_mono (Kd.R_keep (IsS73.apart (show IsS73 w0 _ g s0_0 x1001_1 from by repeat (first | (with_reducible first | exact HI0.out | apply IsS73.alloc | apply IsS73.drewN | apply IsS73.drew | apply IsS73.set_1) | exact HI0.out)) q67_ (by decide)) hk (fun _ h => h.2)) (fun _ h => h.1)); have n1_ := Aside0.mk (KeepBut.trans q42_ hk (.inl rfl)); have n2_ := Aside0.mk (hb); have n3_ := Aside0.mk (hi); clear HO_4; clear HK; clear HB; clear HI0; have HO_4 := n0_; have HK := n1_; have HB := n2_; have HI0 := n3_; clear n0_ n1_ n2_ n3_; (try clear hb); (try clear hk); (try clear hi); obtain ⟨Ao29, co29, eo29⟩ := Kd.R_slice HO_4.out; subst eo29; have q28 : (1 : Int) ≤ ((x4_1.length : Int) : Int) := of_decide_eq_true q71_; obtain ⟨i028, hi028, _, hsz28, _⟩ := info_parts info5; have hroom28 : x4_1.length ≤ co29 := (Kd.R_reads' HO_4.out).2.1; have hC28 : Kd.C (Kd.int .u8) _ Ao29 x4_1.length x4_1 := (Kd.R_reads' HO_4.out).2.2; have hcut28 := cut_from (P := Tryd.prog) 28 5 .i64 Tryd.underlying28 hi028 1 hsz28 Ao29 x4_1.length co29 1 (by omega) q28; have hr28 := Kd.C_drop (m := (1 : Int).toNat) (c := co29) hC28 (by omega) hroom28; obtain ⟨A28, hA28⟩ : ∃ A1, A1 = (if co29 = (1 : Int).toNat then Ao29 else (Ao29 : Option Addr).map (·.add ((1 : Int).toNat * 1))) := ⟨_, rfl⟩; obtain ⟨c28, hc28⟩ : ∃ c1, c1 = co29 - (1 : Int).toNat := ⟨_, rfl⟩; have hy28 : y390.length = x4_1.length - (1 : Int).toNat := (by rw [Ny390.out, List.length_drop] <;> omega); rw [show (x4_1).drop (1 : Int).toNat = y390 from Ny390.out.symm] at hr28; replace hr28 : Kd.C (Kd.int .u8) _ A28 y390.length y390 := (by rw [hA28]; exact hr28); rw [← hy28, ← hA28, ← hc28] at hcut28; have HR393 := Aside0.mk hr28; have HC393 := Aside0.mk (show y390.length ≤ c28 from by rw [hy28, hc28]; exact Nat.sub_le_sub_right hroom28 _); clear hr28 hC28 hroom28 hi028 hsz28 hc28; have KY28 := Aside0.mk hy28; have KA28 := Aside0.mk hA28; clear hy28 hA28; have KL28 := Aside0.mk (show 1 ≤ x4_1.length from by omega); replace q28 := eq_true q28; have hcv30 := Kd.C_string (P := Tryd.prog) (A := A28) (c := c28) Tryd.underlying28 Tryd.underlying5 Tryd.underlying9 (by repeat (first | (with_reducible exact HR393.out) | (with_reducible refine Kd.C_alloc ?_ _) | (with_reducible refine Kd.C_drewN ?_ _) | (with_reducible refine Kd.C_drew ?_) | exact HR393.out))))
        go_ret
        exact ⟨q24_, q41_, q30_, q42_⟩
       ·rw [if_neg c26] at H
        exact absurd H (by simp)
      ·replace c25 := Bool.eq_false_iff.mpr c25
       subst c25
       replace H : (some (strOfNums x4_1, t389)) = some (r1, r2) := by rw [if_neg (show ¬ (false = true) by decide)] at H; exact H
       simp only [Option.some.injEq, Prod.mk.injEq] at H
       obtain ⟨rfl, rfl⟩ := H
       go_wp2_with (first | ((with_reducible refine gate_callee (f := 37) rfl ?_); refine goesL_ (some 45) rfl rfl Tryd.func37 (by kernel_rfl) rfl #[.pointer (some ⟨g, 0, none⟩), .int .i64 30] rfl q43_ ?_; (with_reducible refine (spec_l1Rd_once.calls g s0_0 x1001_1 30 false t389 w0 _ ?side1 ?side2 A24.out).mono ?_); (case side1 => exact q98_); (case side2 => exact q95_); rintro e w31 ⟨rfl, hi, hb, hk⟩; refine ⟨_, rfl, ?_⟩; have n0_ := Aside0.mk (Kd.R_mono (Kd.R_keep (IsS73.apart (show IsS73 w0 _ g s0_0 x1001_1 from by repeat (first | (with_reducible first | exact HI0.out | apply IsS73.alloc | apply IsS73.drewN | apply IsS73.drew | apply IsS73.set_1) | exact HI0.out)) q67_ (by decide)) hk (fun _ h => h.2)) (fun _ h => h.1)); have n1_ := Aside0.mk (KeepBut.trans q42_ hk (.inl rfl)); have n2_ := Aside0.mk (hb); have n3_ := Aside0.mk (hi); clear HO_4; clear HK; clear HB; clear HI0; have HO_4 := n0_; have HK := n1_; have HB := n2_; have HI0 := n3_; clear n0_ n1_ n2_ n3_; (try clear hb); (try clear hk); (try clear hi); have hcv32 := own_string (P := Tryd.prog) Tryd.underlying28 Tryd.underlying5 Tryd.underlying9 (Kd.own_of_R HO_4.out); have hcvq32 := fun m_ : Nat => own_string (P := Tryd.prog) Tryd.underlying28 Tryd.underlying5 Tryd.underlying9 (Kd.own_of_R (Kd.R_drewN HO_4.out m_))))
       go_ret
       exact ⟨q24_, q41_, q30_, q42_⟩
  ·rw [if_neg c5] at H
   exact absurd H (by simp)
 ·rw [if_neg c4] at H
  exact absurd H (by simp)
def spec_DrawFixed.j0 : Nat → ByteArray → List Int → Int → Option (ByteArray × ByteArray × Int)
 | 0, _, _, _ => none
 | k + 1, x6, x397000, x397001 => (some (([(⟨#[]⟩ : ByteArray), (⟨#[71, 65, 77, 69]⟩ : ByteArray), (⟨#[49, 50, 51, 52, 53, 54, 55, 56, 57, 48, 49, 50, 51, 52, 53]⟩ : ByteArray), (⟨#[49, 50, 51, 52, 53, 54, 55, 56, 57, 48, 49, 50, 51, 52, 53, 54]⟩ : ByteArray), (⟨#[10]⟩ : ByteArray)] : List ByteArray) : List ByteArray)).bind fun y401 => ((spec_l1Rd_below.f x397000 x397001 5).bind fun bt404 => (if 0 ≤ bt404.1 then (if bt404.1 < (y401.length : Int) then ((spec_l1Rd_off.f k x397000 bt404.2 0 2).bind fun bt407 => (some (x6, rdOf ByteArray.empty y401 bt404.1, bt407.1))) else (none)) else (none)))
def spec_DrawFixed.f (k : Nat) (l0 : List Int) : Option (ByteArray × ByteArray × Int) := (spec_l1Open.f l0).bind fun bt394 => ((spec_l1Rd_rom.f k bt394.1 bt394.2).bind fun bt397 => ((spec_l1Rd_once.f bt394.1 bt397.2 8).bind fun bt399 => (if bt399.1 = true then (if 0 ≤ (wrap64 (Int.tdiv (wrap64 ((wrap64 ((bt397.1.size : Int) / 256)) * 256)) 2)) then (if (wrap64 (Int.tdiv (wrap64 ((wrap64 ((bt397.1.size : Int) / 256)) * 256)) 2)) ≤ (bt397.1.size : Int) then (spec_DrawFixed.j0 k (bt397.1.extract 0 ((wrap64 (Int.tdiv (wrap64 ((wrap64 ((bt397.1.size : Int) / 256)) * 256)) 2)) : Int).toNat) bt394.1 bt399.2) else (none)) else (none)) else (spec_DrawFixed.j0 k bt397.1 bt394.1 bt399.2))))
theorem spec_DrawFixed.mono_l : ∀ k, (∀ y0 y1 y2, LeO (spec_DrawFixed.j0 k y0 y1 y2) (spec_DrawFixed.j0 (k + 1) y0 y1 y2))
 | 0 => fun _ _ _ r h => by simp [spec_DrawFixed.j0] at h
 | k + 1 => by
  have ih0 := spec_DrawFixed.mono_l k
  ·intro y0 y1 y2
   unfold spec_DrawFixed.j0
   repeat' first
   | (with_reducible first | exact ih0 _ _ _ | exact spec_l1Rd_off.mono _ _ _ _ _ | exact spec_l1Rd_rom.mono _ _ _ | exact LeO.refl _ | exact LeO.none _ | refine LeO.ite ?_ ?_ | refine LeO.bind ?_ (fun _ => ?_))
   | exact ih0 _ _ _
   | exact spec_l1Rd_off.mono _ _ _ _ _
   | exact spec_l1Rd_rom.mono _ _ _
   | exact LeO.none _
   | refine LeO.ite ?_ ?_
   | refine LeO.bind ?_ (fun _ => ?_)
theorem spec_DrawFixed.mono : ∀ a0 k, LeO (spec_DrawFixed.f k a0) (spec_DrawFixed.f (k + 1) a0) := by
 intro a0 k
 have ih0 := spec_DrawFixed.mono_l k
 unfold spec_DrawFixed.f
 repeat' first
   | (with_reducible first | exact ih0 _ _ _ | exact spec_l1Rd_off.mono _ _ _ _ _ | exact spec_l1Rd_rom.mono _ _ _ | exact LeO.refl _ | exact LeO.none _ | refine LeO.ite ?_ ?_ | refine LeO.bind ?_ (fun _ => ?_))
   | exact ih0 _ _ _
   | exact spec_l1Rd_off.mono _ _ _ _ _
   | exact spec_l1Rd_rom.mono _ _ _
   | exact LeO.none _
   | refine LeO.ite ?_ ?_
   | refine LeO.bind ?_ (fun _ => ?_)
def spec_DrawFixed.T5 : Bool × List (List Nat × List Nat) := (true, [([], []), ([], []), ([], []), ([2], [2]), ([1, 3], [1, 3]), ([4], [4]), ([], []), ([6, 3], [6]), ([0, 7, 0], [0]), ([5, 8, 0, 1, 2, 3, 4, 5, 8], [5]), ([7, 9, 0, 1, 2, 3, 4, 5, 6, 7, 8, 9], [7])])
def spec_DrawFixed.B5 : List Nat := [0, 0, 0, 4, 14, 30, 0, 76, 205, 511, 1023]
theorem spec_DrawFixed.tab5 : rtab .any (opsOf Tryd.f26 5) = spec_DrawFixed.T5 := by kernel_rfl
theorem spec_DrawFixed.bits5 : waitsOk spec_DrawFixed.T5.2 spec_DrawFixed.B5 = true := by kernel_rfl
theorem spec_DrawFixed.calls (k : Nat) (A0 : Option Addr) (c0 : Nat) (l0 : List Int) (r1 : ByteArray) (r2 : ByteArray) (r3 : Int) (w : World) (hr0 : Kd.C (Kd.int .u8) w A0 l0.length l0) (hc0 : l0.length ≤ c0) (h : spec_DrawFixed.f k l0 = some (r1, r2, r3)) :
  Calls Tryd.prog 26 #[.slice A0 l0.length c0] w fun e w' => e = .returned (.tuple #[.string r1, .string r2, .int .i64 r3]) ∧ Below w.heap.size w w' := by
 have HR0 := Aside0.mk hr0
 have HC0 := Aside0.mk hc0
 clear hr0 hc0
 have HB := Aside0.mk (Below.refl w.heap.size w)
 have H : ((spec_l1Open.f l0).bind fun bt394 => ((spec_l1Rd_rom.f k bt394.1 bt394.2).bind fun bt397 => ((spec_l1Rd_once.f bt394.1 bt397.2 8).bind fun bt399 => (if bt399.1 = true then (if 0 ≤ (wrap64 (Int.tdiv (wrap64 ((wrap64 ((bt397.1.size : Int) / 256)) * 256)) 2)) then (if (wrap64 (Int.tdiv (wrap64 ((wrap64 ((bt397.1.size : Int) / 256)) * 256)) 2)) ≤ (bt397.1.size : Int) then (spec_DrawFixed.j0 k (bt397.1.extract 0 ((wrap64 (Int.tdiv (wrap64 ((wrap64 ((bt397.1.size : Int) / 256)) * 256)) 2)) : Int).toNat) bt394.1 bt399.2) else (none)) else (none)) else (spec_DrawFixed.j0 k bt397.1 bt394.1 bt399.2))))) = some (r1, r2, r3) := h
 clear h
 replace H := Option.bind_eq_some_iff.mp H
 obtain ⟨⟨t394, t395⟩, A20, H⟩ := H
 replace H : ((spec_l1Rd_rom.f k t394 t395).bind fun bt397 => ((spec_l1Rd_once.f t394 bt397.2 8).bind fun bt399 => (if bt399.1 = true then (if 0 ≤ (wrap64 (Int.tdiv (wrap64 ((wrap64 ((bt397.1.size : Int) / 256)) * 256)) 2)) then (if (wrap64 (Int.tdiv (wrap64 ((wrap64 ((bt397.1.size : Int) / 256)) * 256)) 2)) ≤ (bt397.1.size : Int) then (spec_DrawFixed.j0 k (bt397.1.extract 0 ((wrap64 (Int.tdiv (wrap64 ((wrap64 ((bt397.1.size : Int) / 256)) * 256)) 2)) : Int).toNat) t394 bt399.2) else (none)) else (none)) else (spec_DrawFixed.j0 k bt397.1 t394 bt399.2)))) = some (r1, r2, r3) := H
 have A2 := Aside0.mk A20
 clear A20
 replace H := Option.bind_eq_some_iff.mp H
 obtain ⟨⟨t397, t398⟩, A30, H⟩ := H
 replace H : ((spec_l1Rd_once.f t394 t398 8).bind fun bt399 => (if bt399.1 = true then (if 0 ≤ (wrap64 (Int.tdiv (wrap64 ((wrap64 ((t397.size : Int) / 256)) * 256)) 2)) then (if (wrap64 (Int.tdiv (wrap64 ((wrap64 ((t397.size : Int) / 256)) * 256)) 2)) ≤ (t397.size : Int) then (spec_DrawFixed.j0 k (t397.extract 0 ((wrap64 (Int.tdiv (wrap64 ((wrap64 ((t397.size : Int) / 256)) * 256)) 2)) : Int).toNat) t394 bt399.2) else (none)) else (none)) else (spec_DrawFixed.j0 k t397 t394 bt399.2))) = some (r1, r2, r3) := H
 have A3 := Aside0.mk A30
 clear A30
 replace H := Option.bind_eq_some_iff.mp H
 obtain ⟨⟨t399, t400⟩, A40, H⟩ := H
 replace H : (if t399 = true then (if 0 ≤ (wrap64 (Int.tdiv (wrap64 ((wrap64 ((t397.size : Int) / 256)) * 256)) 2)) then (if (wrap64 (Int.tdiv (wrap64 ((wrap64 ((t397.size : Int) / 256)) * 256)) 2)) ≤ (t397.size : Int) then (spec_DrawFixed.j0 k (t397.extract 0 ((wrap64 (Int.tdiv (wrap64 ((wrap64 ((t397.size : Int) / 256)) * 256)) 2)) : Int).toNat) t394 t400) else (none)) else (none)) else (spec_DrawFixed.j0 k t397 t394 t400)) = some (r1, r2, r3) := H
 have A4 := Aside0.mk A40
 clear A40
 have HC5 := Aside0.mk H
 clear H
 go_enter Tryd.func26, Tryd.ntmps26
 go_upto_if 12 with (first | ((with_reducible refine gate_callee (f := 36) rfl ?_); refine goesL_ (some 8) rfl rfl Tryd.func36 (by kernel_rfl) rfl #[.slice A0 l0.length c0] rfl q43_ ?_; (with_reducible refine (spec_l1Open.calls _ _ l0 t394 t395 w _ ?side1 ?side2 ?side3 A2.out).mono ?_); (case side1 => repeat (first | (with_reducible first | exact HB.out | apply below_alloc | apply pw_below_drewN | apply below_drew1) | exact HB.out)); (case side2 => exact HR0.out); (case side3 => exact HC0.out); rintro e w6 ⟨g396, rfl, hi, hb, hb2⟩; refine ⟨_, rfl, ?_⟩; have n0_ := Aside0.mk (hb); have n1_ := Aside0.mk (hi); clear HB; have HB := n0_; have HI396 := n1_; clear n0_ n1_; (try clear hb); (try clear hb2); (try clear hi)) | ((with_reducible refine gate_callee (f := 45) rfl ?_); refine goesL_ (some 10) rfl rfl Tryd.func45 (by kernel_rfl) rfl #[.pointer (some ⟨g396, 0, none⟩)] rfl q43_ ?_; (with_reducible refine (spec_l1Rd_rom.calls k g396 t394 t395 t397 t398 w _ ?side1 ?side2 A3.out).mono ?_); (case side1 => exact q96_); (case side2 => exact q94_); rintro e w7 ⟨rfl, hi, hb, hk⟩; refine ⟨_, rfl, ?_⟩; have n0_ := Aside0.mk (hb); have n1_ := Aside0.mk (hi); clear HB; clear HI396; have HB := n0_; have HI396 := n1_; clear n0_ n1_; (try clear hb); (try clear hk); (try clear hi)) | ((with_reducible refine gate_callee (f := 37) rfl ?_); refine goesL_ (some 12) rfl rfl Tryd.func37 (by kernel_rfl) rfl #[.pointer (some ⟨g396, 0, none⟩), .int .i64 8] rfl q43_ ?_; (with_reducible refine (spec_l1Rd_once.calls g396 t394 t398 8 t399 t400 w _ ?side1 ?side2 A4.out).mono ?_); (case side1 => exact q96_); (case side2 => exact q94_); rintro e w8 ⟨rfl, hi, hb, hk⟩; refine ⟨_, rfl, ?_⟩; have n0_ := Aside0.mk (hb); have n1_ := Aside0.mk (hi); clear HB; clear HI396; have HB := n0_; have HI396 := n1_; clear n0_ n1_; (try clear hb); (try clear hk); (try clear hi)))
 (try simp only [Act.put, List.setIfInBounds_toArray, List.set_cons_zero, List.set_cons_succ])
 go_cut [6] (fun v6 wc => ∃ (kq : Nat) (x6_4 : ByteArray), v6 = .string x6_4 ∧ Aside0 (spec_DrawFixed.j0 kq x6_4 t394 t400 = some (r1, r2, r3)) ∧ Aside0 (kq ≤ k) ∧ Aside0 (IsS73 w wc g396 t394 t400) ∧ Aside0 (Below w.heap.size w wc))
 case first =>
  have H := HC5.out
  clear HC5
  by_cases c9 : t399 = true
  ·subst c9
   replace H : (if 0 ≤ (wrap64 (Int.tdiv (wrap64 ((wrap64 ((t397.size : Int) / 256)) * 256)) 2)) then (if (wrap64 (Int.tdiv (wrap64 ((wrap64 ((t397.size : Int) / 256)) * 256)) 2)) ≤ (t397.size : Int) then (spec_DrawFixed.j0 k (t397.extract 0 ((wrap64 (Int.tdiv (wrap64 ((wrap64 ((t397.size : Int) / 256)) * 256)) 2)) : Int).toNat) t394 t400) else (none)) else (none)) = some (r1, r2, r3) := by rw [if_pos rfl] at H; exact H
   obtain ⟨ji10, hji10⟩ : ∃ j_ : Int, (wrap64 (Int.tdiv (wrap64 ((wrap64 ((t397.size : Int) / 256)) * 256)) 2)) = j_ := ⟨_, rfl⟩
   replace H : (if 0 ≤ (ji10) then (if (ji10) ≤ (t397.size : Int) then (spec_DrawFixed.j0 k (t397.extract 0 ((ji10) : Int).toNat) t394 t400) else (none)) else (none)) = some (r1, r2, r3) := by first | (rw [hji10] at H; exact H) | (simp only [hji10] at H ⊢; exact H)
   have hji10w : (IntKind.i64.wrap (Int.tdiv (wrap64 ((wrap64 ((t397.size : Int) / 256)) * 256)) 2)) = ji10 := (i64_w _).trans hji10
   by_cases c11 : 0 ≤ (ji10)
   ·rw [if_pos c11] at H
    have c11b0 := eq_true c11
    have c11b1 : decide (0 ≤ (ji10)) = true := decide_eq_true c11
    clear c11
    by_cases c12 : (ji10) ≤ (t397.size : Int)
    ·rw [if_pos c12] at H
     have c12b0 := eq_true c12
     have c12b1 : decide ((ji10) ≤ (t397.size : Int)) = true := decide_eq_true c12
     clear c12
     have H' := Aside0.mk H
     clear H
     go_wp2
     go_meet
     case rel => exact ⟨_, (t397.extract 0 ((ji10) : Int).toNat), (by first | rfl | (simp; done) | (simp only [← hji10] <;> (first | rfl | simp)) | (simp [*]; done) | (simp; decide +kernel) | (simp [wrap64]; done) | (simp [bne]; done)), (by first | with_reducible exact H' | (have H2_ := H'; simp only [← hji10] at H2_ ⊢; with_reducible exact H2_) | exact H'), ⟨q84_⟩, ⟨q40_⟩, ⟨q29_⟩⟩
    ·rw [if_neg c12] at H
     exact absurd H (by simp)
   ·rw [if_neg c11] at H
    exact absurd H (by simp)
  ·replace c9 := Bool.eq_false_iff.mpr c9
   subst c9
   replace H : (spec_DrawFixed.j0 k t397 t394 t400) = some (r1, r2, r3) := by rw [if_neg (show ¬ (false = true) by decide)] at H; exact H
   have H' := Aside0.mk H
   clear H
   go_wp2
   go_meet
   case rel => exact ⟨_, (t397), q60_, H', ⟨q84_⟩, ⟨q40_⟩, ⟨q29_⟩⟩
 case rest =>
  clear HC5
  try clear c1
  try clear c2
  try clear p2
  try clear c3
  try clear c4
  try clear p6
  try clear c9
  try clear c11
  try clear c11b0
  try clear c11b1
  try clear c12
  try clear c12b0
  try clear c12b1
  obtain ⟨kq, x6_4, rfl, HA, HJ4, HI396, HB⟩ := hcut
  cases kq with
  | zero => exact absurd HA.out (by simp [spec_DrawFixed.j0])
  | succ kj4 =>
   have H := HA.out
   clear HA
   simp only [spec_DrawFixed.j0] at H
   obtain ⟨y401, hy401⟩ : ∃ y_ : List ByteArray, y_ = (([(⟨#[]⟩ : ByteArray), (⟨#[71, 65, 77, 69]⟩ : ByteArray), (⟨#[49, 50, 51, 52, 53, 54, 55, 56, 57, 48, 49, 50, 51, 52, 53]⟩ : ByteArray), (⟨#[49, 50, 51, 52, 53, 54, 55, 56, 57, 48, 49, 50, 51, 52, 53, 54]⟩ : ByteArray), (⟨#[10]⟩ : ByteArray)] : List ByteArray)) := ⟨_, rfl⟩
   replace H : ((spec_l1Rd_below.f t394 t400 5).bind fun bt404 => (if 0 ≤ bt404.1 then (if bt404.1 < (y401.length : Int) then ((spec_l1Rd_off.f kj4 t394 bt404.2 0 2).bind fun bt407 => (some (x6_4, rdOf ByteArray.empty y401 bt404.1, bt407.1))) else (none)) else (none))) = some (r1, r2, r3) := by first | (rw [hy401]; with_reducible exact H) | (have H2_ := (Option.bind_some _ _).symm.trans H; rw [hy401]; with_reducible exact H2_) | (have H2_ := (Option.bind_some _ _).symm.trans H; with_reducible exact H2_) | with_reducible exact H | (rw [hy401]; exact H) | exact H
   have Ny401 := Aside0.mk hy401
   clear hy401
   replace H := Option.bind_eq_some_iff.mp H
   obtain ⟨⟨t404, t405⟩, A130, H⟩ := H
   replace H : (if 0 ≤ t404 then (if t404 < (y401.length : Int) then ((spec_l1Rd_off.f kj4 t394 t405 0 2).bind fun bt407 => (some (x6_4, rdOf ByteArray.empty y401 t404, bt407.1))) else (none)) else (none)) = some (r1, r2, r3) := H
   have A13 := Aside0.mk A130
   clear A130
   by_cases c14 : 0 ≤ t404
   ·rw [if_pos c14] at H
    have c14b0 : decide (0 ≤ t404) = true := decide_eq_true c14
    clear c14
    by_cases c15 : t404 < (y401.length : Int)
    ·rw [if_pos c15] at H
     have c15b0 : decide (t404 < (y401.length : Int)) = true := decide_eq_true c15
     clear c15
     replace H := Option.bind_eq_some_iff.mp H
     obtain ⟨⟨t407, t408⟩, A160, H⟩ := H
     replace H : (some (x6_4, rdOf ByteArray.empty y401 t404, t407)) = some (r1, r2, r3) := H
     have A16 := Aside0.mk A160
     clear A160
     simp only [Option.some.injEq, Prod.mk.injEq] at H
     obtain ⟨rfl, rfl, rfl⟩ := H
     try go_wp2
     have pi406 : (0 ≤ (t404 : Int)) = True := eq_true (of_decide_eq_true q71_)
     have qi406 : (t404 < (y401.length : Int)) = True := eq_true (of_decide_eq_true q71_)
     have n0_ := Aside0.mk (IsS73.drew HI396.out)
     have n1_ := Aside0.mk (below_drew1 HB.out)
     clear HI396
     clear HB
     have HI396 := n0_
     have HB := n1_
     clear n0_ n1_
     refine start_ (n := 11) (S := fun w' => True) (ds := []) #[false, false, false, false, false, false, false, false, false, false, false] (by kernel_rfl) rfl rfl trivial (fun hHeld => ?_); refine with_tabW spec_DrawFixed.tab5 spec_DrawFixed.bits5 (fun HT_ HW_ => ?_)
     generalize wc.drew = w17 at HI396 HB hHeld ⊢
     refine pure_ (i := 0) (N := some 20) (v := ?_) (a' := ?_) #[true, false, false, false, false, false, false, false, false, false, false] rfl rfl (any_of HT_.out (by kernel_rfl)) (fun _ _ _ h => h) (Or.inl ⟨by rfl, ?_⟩) ?_ ?_
     rotate_left
     ·intro w'
      go_simp
      with_reducible rfl
     rotate_left
     ·simp only [Act.put, List.setIfInBounds_toArray, List.set_cons_zero, List.set_cons_succ, i64_w, i32_w]
      rfl
     refine pure_ (i := 2) (N := some 22) (v := ?_) (a' := ?_) #[true, false, true, false, false, false, false, false, false, false, false] rfl rfl (any_of HT_.out (by kernel_rfl)) (fun _ _ _ h => h) (Or.inl ⟨by rfl, ?_⟩) ?_ ?_
     rotate_left
     ·intro w'
      go_simp
      with_reducible rfl
     rotate_left
     ·simp only [Act.put, List.setIfInBounds_toArray, List.set_cons_zero, List.set_cons_succ, i64_w, i32_w]
      rfl
     refine pure_ (i := 6) (N := some 26) (v := ?_) (a' := ?_) #[true, false, true, false, false, false, true, false, false, false, false] rfl rfl (any_of HT_.out (by kernel_rfl)) (fun _ _ _ h => h) (Or.inl ⟨by rfl, ?_⟩) ?_ ?_
     rotate_left
     ·intro w'
      go_simp
      with_reducible rfl
     rotate_left
     ·simp only [Act.put, List.setIfInBounds_toArray, List.set_cons_zero, List.set_cons_succ, i64_w, i32_w]
      rfl
     refine inv_at [1, 3, 4, 5, 7, 8, 9, 10] (fun a0_ b a w' => ∃ (v402 : Value) (adz_v402 : Addr) (m4_ : Value), a = putSel a0_ b [(1, 21, v402), (3, 23, .int .i64 t404), (4, 24, m4_), (5, 25, .string (rdOf ByteArray.empty y401 t404)), (7, 27, .int .i64 t407), (8, 2, .string x6_4), (9, 3, .string (rdOf ByteArray.empty y401 t404)), (10, 4, .int .i64 t407)] ∧ (b 3 = false → IsS73 w w' g396 t394 t400) ∧ (Below w.heap.size w w') ∧ (b 1 = true → Kd.R Kd.string 9 w' w.heap.size (fun _ => True) v402 y401) ∧ (b 1 = true → ∃ c_, (v402 : Value) = .slice (some adz_v402) y401.length c_) ∧ (b 3 = true → b 7 = false → IsS73 w w' g396 t394 t405) ∧ (b 7 = true → IsS73 w w' g396 t394 t408) ∧ (b 4 = true → (m4_ : Value) = .pointer (some (adz_v402.add (t404).toNat)))) HT_.out HW_.out (by kernel_rfl) (by kernel_rfl) ?_ ?_ ?_
     ·exact ⟨.bool false, ⟨0, 0, none⟩, .bool false, q72_, fun _ => HI396.out, HB.out, fun h_ => absurd h_ (by decide), fun h_ => absurd h_ (by decide), fun h_ => absurd h_ (by decide), fun h_ => absurd h_ (by decide), fun h_ => absurd h_ (by decide)⟩
     ·skip
      clear HB HI396
      refine steps_cons ?_ ?_
      ·rintro b a w' ⟨v402, adz_v402, m4_, ha, Q_HI396, Q_HB, Q_HO403, Q_HA_HO403, Q_HI396_e3, Q_HI396_e7, Q_X4_⟩ hb_ hon hoff
       refine ⟨_, rfl, fun K hK => ?_⟩
       replace ha := Aside0.mk ha
       have HB := Aside0.mk Q_HB
       refine Kd.R_lit_step Kd.string _ 9 ?hg (N := 21) ?hd (xs := ([(⟨#[]⟩ : ByteArray), (⟨#[71, 65, 77, 69]⟩ : ByteArray), (⟨#[49, 50, 51, 52, 53, 54, 55, 56, 57, 48, 49, 50, 51, 52, 53]⟩ : ByteArray), (⟨#[49, 50, 51, 52, 53, 54, 55, 56, 57, 48, 49, 50, 51, 52, 53, 54]⟩ : ByteArray), (⟨#[10]⟩ : ByteArray)] : List ByteArray)) (inner := [.string (⟨#[]⟩ : ByteArray), .string (⟨#[71, 65, 77, 69]⟩ : ByteArray), .string (⟨#[49, 50, 51, 52, 53, 54, 55, 56, 57, 48, 49, 50, 51, 52, 53]⟩ : ByteArray), .string (⟨#[49, 50, 51, 52, 53, 54, 55, 56, 57, 48, 49, 50, 51, 52, 53, 54]⟩ : ByteArray), .string (⟨#[10]⟩ : ByteArray)]) (ok := fun _ => True) (okp := fun _ => True) ?hr ?hp (fun _ hk => hk) trivial (Below.refl _ _) (Nat.le_refl _) (by simp) ?_; (case hd => rfl); (case hg => rfl); (case hr => exact q99_); (case hp => exact (Reps.one (show Kd.M Kd.string _ _ _ (⟨#[]⟩ : ByteArray) [.string (⟨#[]⟩ : ByteArray)] from rfl) (Reps.one (show Kd.M Kd.string _ _ _ (⟨#[71, 65, 77, 69]⟩ : ByteArray) [.string (⟨#[71, 65, 77, 69]⟩ : ByteArray)] from rfl) (Reps.one (show Kd.M Kd.string _ _ _ (⟨#[49, 50, 51, 52, 53, 54, 55, 56, 57, 48, 49, 50, 51, 52, 53]⟩ : ByteArray) [.string (⟨#[49, 50, 51, 52, 53, 54, 55, 56, 57, 48, 49, 50, 51, 52, 53]⟩ : ByteArray)] from rfl) (Reps.one (show Kd.M Kd.string _ _ _ (⟨#[49, 50, 51, 52, 53, 54, 55, 56, 57, 48, 49, 50, 51, 52, 53, 54]⟩ : ByteArray) [.string (⟨#[49, 50, 51, 52, 53, 54, 55, 56, 57, 48, 49, 50, 51, 52, 53, 54]⟩ : ByteArray)] from rfl) (Reps.one (show Kd.M Kd.string _ _ _ (⟨#[10]⟩ : ByteArray) [.string (⟨#[10]⟩ : ByteArray)] from rfl) (Reps.none _ _)))))))
       intro v402 w18 ho19 hb hg_ hnew_
       clear hg_ hnew_
       (first | rw [← Ny401.out] at ho19 | (simp only [Int.reduceToNat] at ho19; rw [← Ny401.out] at ho19))
       have n0_ := Aside0.mk (Kd.R_lower ho19 (below_size q44_))
       have n2_ := Aside0.mk (below_step q44_ hb)
       have z_HI396 := fun (h0_ : b 3 = false) => (show IsS73 w w18 g396 t394 t400 from by first | exact (IsS73.below (by repeat (first | (with_reducible first | exact (Q_HI396 h0_) | apply IsS73.alloc | apply IsS73.drewN | apply IsS73.drew | apply IsS73.set_1) | exact (Q_HI396 h0_))) hb))
       have z_HI396_e3 := fun (h0_ : b 3 = true) (h1_ : b 7 = false) => (show IsS73 w w18 g396 t394 t405 from by first | exact (IsS73.below (by repeat (first | (with_reducible first | exact (Q_HI396_e3 h0_ h1_) | apply IsS73.alloc | apply IsS73.drewN | apply IsS73.drew | apply IsS73.set_1) | exact (Q_HI396_e3 h0_ h1_))) hb))
       have z_HI396_e7 := fun (h0_ : b 7 = true) => (show IsS73 w w18 g396 t394 t408 from by first | exact (IsS73.below (by repeat (first | (with_reducible first | exact (Q_HI396_e7 h0_) | apply IsS73.alloc | apply IsS73.drewN | apply IsS73.drew | apply IsS73.set_1) | exact (Q_HI396_e7 h0_))) hb))
       clear HB
       have HO403 := n0_
       have HB := n2_
       clear n0_ n2_
       clear hb ho19
       obtain ⟨Ao20, co20, eo20⟩ := Kd.R_slice HO403.out
       subst eo20
       obtain ⟨ado20, fo20, _⟩ := Kd.at_string (Kd.R_reads' HO403.out).2.2 0 (by decide) (by rw [Ny401.out]; simp)
       cases fo20
       refine hK.out _ _ ⟨.slice (some ado20) y401.length co20, ado20, m4_, q73_, z_HI396, q44_, fun _ => (by (with_reducible repeat (first | apply Kd.R_alloc | apply Kd.R_drewN | apply Kd.R_drew)); exact HO403.out), fun _ => ⟨_, rfl⟩, z_HI396_e3, z_HI396_e7, fun h0_ => absurd ((hoff 4 (by kernel_rfl)).symm.trans h0_) (by decide)⟩
      refine steps_cons ?_ ?_
      ·rintro b a w' ⟨v402, adz_v402, m4_, ha, Q_HI396, Q_HB, Q_HO403, Q_HA_HO403, Q_HI396_e3, Q_HI396_e7, Q_X4_⟩ hb_ hon hoff
       refine ⟨_, rfl, fun K hK => ?_⟩
       have e22 : a.tmps[22]? = some (.pointer (some ⟨g396, 0, none⟩)) := by rw [ha]; exact (putSel_off rfl).trans rfl
       replace ha := Aside0.mk ha
       have HI396 := Aside0.mk (Q_HI396 hb_)
       have HB := Aside0.mk Q_HB
       refine goes_ Tryd.func40 (by kernel_rfl) rfl #[.pointer (some ⟨g396, 0, none⟩), .int .i64 5] (by rfl) rfl rfl (by first | (simp only [List.map_toArray, List.map_cons, List.map_nil, Act.eval, Array.getD_eq_getD_getElem?, Option.getD_some, e22]; done) | (simp only [List.map_toArray, List.map_cons, List.map_nil, Act.eval, Array.getD_eq_getD_getElem?, Option.getD_some, e22]; rfl)) ?_
       with_reducible refine (spec_l1Rd_below.calls g396 t394 t400 5 t404 t405 w _ ?side1 ?side2 A13.out).mono ?_
       (case side1 => exact q96_)
       (case side2 => exact q94_)
       rintro e w18 ⟨rfl, hi, hb, hk⟩
       refine ⟨_, rfl, ?_⟩
       have n0_ := Aside0.mk (hb)
       have n1_ := Aside0.mk (hi)
       have z_HO403 := fun (h0_ : b 1 = true) => (show Kd.R Kd.string 9 w18 w.heap.size (fun _ => True) v402 y401 from by first | exact (Kd.R_mono (Kd.R_keep (IsS73.apart (show IsS73 w _ g396 t394 t400 from by repeat (first | (with_reducible first | exact HI396.out | apply IsS73.alloc | apply IsS73.drewN | apply IsS73.drew | apply IsS73.set_1) | exact HI396.out)) q62_ (by decide)) hk (fun _ h => h.2)) (fun _ h => h.1)) | exact Kd.R_mono (Kd.R_mono (Kd.R_keep (IsS73.apart (show IsS73 w _ g396 t394 t400 from by repeat (first | (with_reducible first | exact HI396.out | apply IsS73.alloc | apply IsS73.drewN | apply IsS73.drew | apply IsS73.set_1) | exact HI396.out)) q62_ (by decide)) hk (fun _ h => h.2)) (fun _ h => h.1)) (fun _ h_ => by first | trivial | exact h_ | exact h_.1))
       clear HB
       clear HI396
       have HB := n0_
       have HI396 := n1_
       clear n0_ n1_
       (try clear hb)
       (try clear hb2)
       (try clear hk)
       (try clear hi)
       refine hK.out _ _ ⟨v402, adz_v402, m4_, q74_, fun h0_ => absurd ((up_self b 3).symm.trans h0_) (by decide), q29_, z_HO403, Q_HA_HO403, fun _ _ => q40_, fun h0_ => absurd ((hoff 7 (by kernel_rfl)).symm.trans h0_) (by decide), fun h0_ => absurd ((hoff 4 (by kernel_rfl)).symm.trans h0_) (by decide)⟩
      refine steps_cons ?_ ?_
      ·rintro b a w' ⟨v402, adz_v402, m4_, ha, Q_HI396, Q_HB, Q_HO403, Q_HA_HO403, Q_HI396_e3, Q_HI396_e7, Q_X4_⟩ hb_ hon hoff
       refine ⟨_, rfl, fun K hK => ?_⟩
       have e21 : a.tmps[21]? = some (v402) := by rw [ha]; exact putSel_on (e := (1, 21, v402)) 0 rfl rfl (hon 1 (by kernel_rfl)) rfl
       have e23 : a.tmps[23]? = some (.int .i64 t404) := by rw [ha]; exact putSel_on (e := (3, 23, .int .i64 t404)) 1 rfl rfl (hon 3 (by kernel_rfl)) rfl
       replace ha := Aside0.mk ha
       have HB := Aside0.mk Q_HB
       have HO403 := Aside0.mk (Q_HO403 (hon 1 (by kernel_rfl)))
       have HA_HO403 := Aside0.mk (Q_HA_HO403 (hon 1 (by kernel_rfl)))
       obtain ⟨c_, hv_⟩ := HA_HO403.out
       rw [hv_] at e21
       refine value_ (w1 := w') (v := .pointer (some (adz_v402.add (t404).toNat))) (by rfl) rfl ?_ ?_
       ·go_simp
        (try simp only [i64_w])
        try rfl
       refine hK.out _ _ ⟨v402, adz_v402, (.pointer (some (adz_v402.add (t404).toNat))), q75_, fun h0_ => absurd ((hon 3 (by kernel_rfl)).symm.trans h0_) (by decide), Q_HB, Q_HO403, Q_HA_HO403, Q_HI396_e3, Q_HI396_e7, fun _ => rfl⟩
      refine steps_cons ?_ ?_
      ·rintro b a w' ⟨v402, adz_v402, m4_, ha, Q_HI396, Q_HB, Q_HO403, Q_HA_HO403, Q_HI396_e3, Q_HI396_e7, Q_X4_⟩ hb_ hon hoff
       refine ⟨_, rfl, fun K hK => ?_⟩
       have e24 : a.tmps[24]? = some (m4_) := by rw [ha]; exact putSel_on (e := (4, 24, m4_)) 2 rfl rfl (hon 4 (by kernel_rfl)) rfl
       rw [Q_X4_ (hon 4 (by kernel_rfl))] at e24
       replace ha := Aside0.mk ha
       have HB := Aside0.mk Q_HB
       have HO403 := Aside0.mk (Q_HO403 (hon 1 (by kernel_rfl)))
       have HA_HO403 := Aside0.mk (Q_HA_HO403 (hon 1 (by kernel_rfl)))
       obtain ⟨c_, hv_⟩ := HA_HO403.out
       have hF_ := HO403.out
       rw [hv_] at hF_
       obtain ⟨ad_, ea_, hx_⟩ := Kd.at_string (Kd.R_reads' hF_).2.2 t404 (of_eq_true pi406) (of_eq_true qi406)
       cases ea_
       refine value_ (w1 := w') (v := .string (rdOf ByteArray.empty y401 t404)) (by rfl) rfl ?_ ?_
       ·go_simp
        (try simp only [i64_w])
        try rfl
       refine hK.out _ _ ⟨v402, adz_v402, m4_, q76_, fun h0_ => absurd ((hon 3 (by kernel_rfl)).symm.trans h0_) (by decide), Q_HB, Q_HO403, Q_HA_HO403, Q_HI396_e3, Q_HI396_e7, Q_X4_⟩
      refine steps_cons ?_ ?_
      ·rintro b a w' ⟨v402, adz_v402, m4_, ha, Q_HI396, Q_HB, Q_HO403, Q_HA_HO403, Q_HI396_e3, Q_HI396_e7, Q_X4_⟩ hb_ hon hoff
       refine ⟨_, rfl, fun K hK => ?_⟩
       have e26 : a.tmps[26]? = some (.pointer (some ⟨g396, 0, none⟩)) := by rw [ha]; exact (putSel_off rfl).trans rfl
       replace ha := Aside0.mk ha
       have HB := Aside0.mk Q_HB
       have HI396 := Aside0.mk (Q_HI396_e3 (hon 3 (by kernel_rfl)) hb_)
       refine goes_ Tryd.func46 (by kernel_rfl) rfl #[.pointer (some ⟨g396, 0, none⟩), .int .i64 0, .int .i64 2] (by rfl) rfl rfl (by first | (simp only [List.map_toArray, List.map_cons, List.map_nil, Act.eval, Array.getD_eq_getD_getElem?, Option.getD_some, e26]; done) | (simp only [List.map_toArray, List.map_cons, List.map_nil, Act.eval, Array.getD_eq_getD_getElem?, Option.getD_some, e26]; rfl)) ?_
       with_reducible refine (spec_l1Rd_off.calls kj4 g396 t394 t405 0 2 t407 t408 w _ ?side1 ?side2 A16.out).mono ?_
       (case side1 => exact q96_)
       (case side2 => exact q94_)
       rintro e w20 ⟨rfl, hi, hb, hk⟩
       refine ⟨_, rfl, ?_⟩
       have n0_ := Aside0.mk (hb)
       have n1_ := Aside0.mk (hi)
       have z_HO403 := fun (h0_ : b 1 = true) => (show Kd.R Kd.string 9 w20 w.heap.size (fun _ => True) v402 y401 from by first | exact (Kd.R_mono (Kd.R_keep (IsS73.apart (show IsS73 w _ g396 t394 t405 from by repeat (first | (with_reducible first | exact HI396.out | apply IsS73.alloc | apply IsS73.drewN | apply IsS73.drew | apply IsS73.set_1) | exact HI396.out)) q62_ (by decide)) hk (fun _ h => h.2)) (fun _ h => h.1)) | exact Kd.R_mono (Kd.R_mono (Kd.R_keep (IsS73.apart (show IsS73 w _ g396 t394 t405 from by repeat (first | (with_reducible first | exact HI396.out | apply IsS73.alloc | apply IsS73.drewN | apply IsS73.drew | apply IsS73.set_1) | exact HI396.out)) q62_ (by decide)) hk (fun _ h => h.2)) (fun _ h => h.1)) (fun _ h_ => by first | trivial | exact h_ | exact h_.1))
       clear HB
       clear HI396
       have HB := n0_
       have HI396 := n1_
       clear n0_ n1_
       (try clear hb)
       (try clear hb2)
       (try clear hk)
       (try clear hi)
       refine hK.out _ _ ⟨v402, adz_v402, m4_, q77_, fun h0_ => absurd ((hon 3 (by kernel_rfl)).symm.trans h0_) (by decide), q29_, z_HO403, Q_HA_HO403, fun _ h1_ => absurd ((up_self b 7).symm.trans h1_) (by decide), fun _ => q40_, Q_X4_⟩
      refine steps_cons ?_ ?_
      ·rintro b a w' ⟨v402, adz_v402, m4_, ha, Q_HI396, Q_HB, Q_HO403, Q_HA_HO403, Q_HI396_e3, Q_HI396_e7, Q_X4_⟩ hb_ hon hoff
       refine ⟨_, rfl, fun K hK => ?_⟩
       have e20 : a.tmps[20]? = some (.string x6_4) := by rw [ha]; exact (putSel_off rfl).trans rfl
       replace ha := Aside0.mk ha
       have HB := Aside0.mk Q_HB
       have HI396 := Aside0.mk (Q_HI396_e7 (hon 7 (by kernel_rfl)))
       refine value_ (w1 := w') (v := .string x6_4) (by rfl) rfl ?_ ?_
       ·go_simp
        (try simp only [i64_w])
        try rfl
       refine hK.out _ _ ⟨v402, adz_v402, m4_, q78_, fun h0_ => absurd ((hon 3 (by kernel_rfl)).symm.trans h0_) (by decide), Q_HB, Q_HO403, Q_HA_HO403, fun _ h1_ => absurd ((hon 7 (by kernel_rfl)).symm.trans h1_) (by decide), Q_HI396_e7, Q_X4_⟩
      refine steps_cons ?_ ?_
      ·rintro b a w' ⟨v402, adz_v402, m4_, ha, Q_HI396, Q_HB, Q_HO403, Q_HA_HO403, Q_HI396_e3, Q_HI396_e7, Q_X4_⟩ hb_ hon hoff
       refine ⟨_, rfl, fun K hK => ?_⟩
       have e25 : a.tmps[25]? = some (.string (rdOf ByteArray.empty y401 t404)) := by rw [ha]; exact putSel_on (e := (5, 25, .string (rdOf ByteArray.empty y401 t404))) 3 rfl rfl (hon 5 (by kernel_rfl)) rfl
       replace ha := Aside0.mk ha
       have HB := Aside0.mk Q_HB
       have HO403 := Aside0.mk (Q_HO403 (hon 1 (by kernel_rfl)))
       have HA_HO403 := Aside0.mk (Q_HA_HO403 (hon 1 (by kernel_rfl)))
       have HI396 := Aside0.mk (Q_HI396_e7 (hon 7 (by kernel_rfl)))
       refine value_ (w1 := w') (v := .string (rdOf ByteArray.empty y401 t404)) (by rfl) rfl ?_ ?_
       ·go_simp
        (try simp only [i64_w])
        try rfl
       refine hK.out _ _ ⟨v402, adz_v402, m4_, q79_, fun h0_ => absurd ((hon 3 (by kernel_rfl)).symm.trans h0_) (by decide), Q_HB, Q_HO403, Q_HA_HO403, fun _ h1_ => absurd ((hon 7 (by kernel_rfl)).symm.trans h1_) (by decide), Q_HI396_e7, Q_X4_⟩
      refine steps_cons ?_ ?_
      ·rintro b a w' ⟨v402, adz_v402, m4_, ha, Q_HI396, Q_HB, Q_HO403, Q_HA_HO403, Q_HI396_e3, Q_HI396_e7, Q_X4_⟩ hb_ hon hoff
       refine ⟨_, rfl, fun K hK => ?_⟩
       have e27 : a.tmps[27]? = some (.int .i64 t407) := by rw [ha]; exact putSel_on (e := (7, 27, .int .i64 t407)) 4 rfl rfl (hon 7 (by kernel_rfl)) rfl
       replace ha := Aside0.mk ha
       have HB := Aside0.mk Q_HB
       have HO403 := Aside0.mk (Q_HO403 (hon 1 (by kernel_rfl)))
       have HA_HO403 := Aside0.mk (Q_HA_HO403 (hon 1 (by kernel_rfl)))
       have HI396 := Aside0.mk (Q_HI396_e7 (hon 7 (by kernel_rfl)))
       refine value_ (w1 := w') (v := .int .i64 t407) (by rfl) rfl ?_ ?_
       ·go_simp
        (try simp only [i64_w])
        try rfl
       refine hK.out _ _ ⟨v402, adz_v402, m4_, q80_, fun h0_ => absurd ((hon 3 (by kernel_rfl)).symm.trans h0_) (by decide), Q_HB, Q_HO403, Q_HA_HO403, fun _ h1_ => absurd ((hon 7 (by kernel_rfl)).symm.trans h1_) (by decide), Q_HI396_e7, Q_X4_⟩
      exact steps_nil
     rintro b a w23 hall ⟨v402, adz_v402, m4_, ha, Q_HI396, Q_HB, Q_HO403, Q_HA_HO403, Q_HI396_e3, Q_HI396_e7, Q_X4_⟩
     clear HB HI396
     have hb1_ := hall 1 (by kernel_rfl)
     have hb3_ := hall 3 (by kernel_rfl)
     have hb4_ := hall 4 (by kernel_rfl)
     have hb5_ := hall 5 (by kernel_rfl)
     have hb7_ := hall 7 (by kernel_rfl)
     have hb8_ := hall 8 (by kernel_rfl)
     have hb9_ := hall 9 (by kernel_rfl)
     have hb10_ := hall 10 (by kernel_rfl)
     subst ha
     obtain rfl := Q_X4_ hb4_
     simp only [putSel, hb1_, hb3_, hb4_, hb5_, hb7_, hb8_, hb9_, hb10_, if_true, Act.put, List.setIfInBounds_toArray, List.set_cons_zero, List.set_cons_succ]
     clear Q_HI396
     have HB := Aside0.mk Q_HB
     clear Q_HB
     have HO403 := Aside0.mk (Q_HO403 hb1_)
     clear Q_HO403
     have HA_HO403 := Aside0.mk (Q_HA_HO403 hb1_)
     clear Q_HA_HO403
     clear Q_HI396_e3
     have HI396 := Aside0.mk (Q_HI396_e7 hb7_)
     clear Q_HI396_e7
     clear hall hb1_ hb3_ hb4_ hb5_ hb7_ hb8_ hb9_ hb10_
     obtain ⟨co24, eo24⟩ := HA_HO403.out
     clear HA_HO403
     subst eo24
     try go_wp2
     go_ret3
     exact ⟨q48_, q29_⟩
    ·rw [if_neg c15] at H
     exact absurd H (by simp)
   ·rw [if_neg c14] at H
    exact absurd H (by simp)
def stringslite_HasPrefix.f (a0 : ByteArray) (a1 : ByteArray) : Option (Bool) := if (a0.size : Int) ≥ (a1.size : Int) then (if 0 ≤ (a1.size : Int) then (if (a1.size : Int) ≤ (a0.size : Int) then (some ((a0.extract 0 ((a1.size : Int) : Int).toNat).toList == a1.toList)) else (none)) else (none)) else (some false)
theorem stringslite_HasPrefix.calls (a0 : ByteArray) (a1 : ByteArray) (r : Bool) (w : World) (h : stringslite_HasPrefix.f a0 a1 = some r) :
  Calls Tryd.prog 70 #[.string a0, .string a1] w fun e w' => e = .returned (.bool r) ∧ Drawn0 w w' := by
 have H : (if (a0.size : Int) ≥ (a1.size : Int) then (if 0 ≤ (a1.size : Int) then (if (a1.size : Int) ≤ (a0.size : Int) then (some ((a0.extract 0 ((a1.size : Int) : Int).toNat).toList == a1.toList)) else (none)) else (none)) else (some false)) = some r := h
 clear h
 by_cases c3 : (a0.size : Int) ≥ (a1.size : Int)
 ·rw [if_pos c3] at H
  have c3b0 : decide ((a1.size : Int) ≤ (a0.size : Int)) = true := decide_eq_true c3
  have c3b1 : decide (a1.size ≤ a0.size) = true := decide_eq_true (Int.ofNat_le.mp c3)
  clear c3
  by_cases c4 : 0 ≤ (a1.size : Int)
  ·rw [if_pos c4] at H
   have c4b0 := eq_true c4
   have c4b1 : decide (0 ≤ (a1.size : Int)) = true := decide_eq_true c4
   clear c4
   by_cases c5 : (a1.size : Int) ≤ (a0.size : Int)
   ·rw [if_pos c5] at H
    have c5b0 := eq_true c5
    have c5b1 : decide ((a1.size : Int) ≤ (a0.size : Int)) = true := decide_eq_true c5
    clear c5
    obtain rfl := Option.some.inj H
    go_enter Tryd.func70, Tryd.ntmps70
    go_wp2
    go_ret
    exact ⟨q60_, q69_⟩
   ·rw [if_neg c5] at H
    exact absurd H (by simp)
  ·rw [if_neg c4] at H
   exact absurd H (by simp)
 ·rw [if_neg c3] at H
  have c3b0 : decide ((a1.size : Int) ≤ (a0.size : Int)) = false := decide_eq_false c3
  have c3b1 : decide (a1.size ≤ a0.size) = false := decide_eq_false (fun h => c3 (Int.ofNat_le.mpr h))
  clear c3
  obtain rfl := Option.some.inj H
  go_enter Tryd.func70, Tryd.ntmps70
  go_wp2
  go_ret
  exact ⟨q60_, q69_⟩
def strings_HasPrefix.f (a0 : ByteArray) (a1 : ByteArray) : Option (Bool) := (stringslite_HasPrefix.f a0 a1).bind fun t409 => (some t409)
theorem strings_HasPrefix.calls (a0 : ByteArray) (a1 : ByteArray) (r : Bool) (w : World) (h : strings_HasPrefix.f a0 a1 = some r) :
  Calls Tryd.prog 51 #[.string a0, .string a1] w fun e w' => e = .returned (.bool r) ∧ Drawn0 w w' := by
 have H : ((stringslite_HasPrefix.f a0 a1).bind fun t409 => (some t409)) = some r := h
 clear h
 replace H := Option.bind_eq_some_iff.mp H
 obtain ⟨t409, A30, H⟩ := H
 have A3 := Aside0.mk A30
 clear A30
 obtain rfl := Option.some.inj H
 go_enter Tryd.func51, Tryd.ntmps51
 go_wp2_with (first | ((with_reducible refine gate_callee (f := 70) rfl ?_); refine goesL_ (some 7) rfl rfl Tryd.func70 (by kernel_rfl) rfl #[.string a0, .string a1] rfl q43_ ?_; (with_reducible refine (stringslite_HasPrefix.calls a0 a1 t409 _ A3.out).mono ?_); rintro e w' ⟨rfl, ⟨nd, rfl⟩⟩; refine ⟨_, rfl, ?_⟩))
 go_ret
 exact ⟨q60_, q69_⟩
-- NOT PRINTED: function 132 (abi_NoEscape)
-- NOT PRINTED: function 108 (strings_Builder_copyCheck)
-- NOT PRINTED: function 133 (bytealg_MakeNoZero)
-- NOT PRINTED: function 109 (strings_Builder_grow)
-- NOT PRINTED: function 87 (strings_Builder_Grow)
-- NOT PRINTED: function 88 (strings_Builder_WriteString)
-- NOT PRINTED: function 90 (strings_Builder_String)
def bits_Mul32.f (a0 : Int) (a1 : Int) : Option (Int × Int) := some (((IntKind.u64.wrap ((IntKind.u64.wrap (a0)) * (IntKind.u64.wrap (a1)))) / 4294967296) % 4294967296, (IntKind.u64.wrap ((IntKind.u64.wrap (a0)) * (IntKind.u64.wrap (a1)))) % 4294967296)
theorem bits_Mul32.calls (a0 : Int) (a1 : Int) (r1 : Int) (r2 : Int) (w : World) (h : bits_Mul32.f a0 a1 = some (r1, r2)) :
  Calls Tryd.prog 118 #[.int .u32 a0, .int .u32 a1] w fun e w' => e = .returned (.tuple #[.int .u32 r1, .int .u32 r2]) ∧ Drawn0 w w' := by
 have H : (some (((IntKind.u64.wrap ((IntKind.u64.wrap (a0)) * (IntKind.u64.wrap (a1)))) / 4294967296) % 4294967296, (IntKind.u64.wrap ((IntKind.u64.wrap (a0)) * (IntKind.u64.wrap (a1)))) % 4294967296)) = some (r1, r2) := h
 clear h
 simp only [Option.some.injEq, Prod.mk.injEq] at H
 obtain ⟨rfl, rfl⟩ := H
 go_enter Tryd.func118, Tryd.ntmps118
 go_wp2
 go_ret2
 exact ⟨q60_, q69_⟩
def bits_Mul64.f (a0 : Int) (a1 : Int) : Option (Int × Int) := some (IntKind.u64.wrap ((IntKind.u64.wrap ((IntKind.u64.wrap ((a0 / 4294967296) * (a1 / 4294967296))) + ((IntKind.u64.wrap ((IntKind.u64.wrap ((a0 / 4294967296) * (Go.bits .and .u64 a1 4294967295))) + ((IntKind.u64.wrap ((Go.bits .and .u64 a0 4294967295) * (Go.bits .and .u64 a1 4294967295))) / 4294967296))) / 4294967296))) + ((IntKind.u64.wrap ((Go.bits .and .u64 (IntKind.u64.wrap ((IntKind.u64.wrap ((a0 / 4294967296) * (Go.bits .and .u64 a1 4294967295))) + ((IntKind.u64.wrap ((Go.bits .and .u64 a0 4294967295) * (Go.bits .and .u64 a1 4294967295))) / 4294967296))) 4294967295) + (IntKind.u64.wrap ((Go.bits .and .u64 a0 4294967295) * (a1 / 4294967296))))) / 4294967296)), IntKind.u64.wrap (a0 * a1))
theorem bits_Mul64.calls (a0 : Int) (a1 : Int) (r1 : Int) (r2 : Int) (w : World) (h : bits_Mul64.f a0 a1 = some (r1, r2)) :
  Calls Tryd.prog 119 #[.int .u64 a0, .int .u64 a1] w fun e w' => e = .returned (.tuple #[.int .u64 r1, .int .u64 r2]) ∧ Drawn0 w w' := by
 have H : (some (IntKind.u64.wrap ((IntKind.u64.wrap ((IntKind.u64.wrap ((a0 / 4294967296) * (a1 / 4294967296))) + ((IntKind.u64.wrap ((IntKind.u64.wrap ((a0 / 4294967296) * (Go.bits .and .u64 a1 4294967295))) + ((IntKind.u64.wrap ((Go.bits .and .u64 a0 4294967295) * (Go.bits .and .u64 a1 4294967295))) / 4294967296))) / 4294967296))) + ((IntKind.u64.wrap ((Go.bits .and .u64 (IntKind.u64.wrap ((IntKind.u64.wrap ((a0 / 4294967296) * (Go.bits .and .u64 a1 4294967295))) + ((IntKind.u64.wrap ((Go.bits .and .u64 a0 4294967295) * (Go.bits .and .u64 a1 4294967295))) / 4294967296))) 4294967295) + (IntKind.u64.wrap ((Go.bits .and .u64 a0 4294967295) * (a1 / 4294967296))))) / 4294967296)), IntKind.u64.wrap (a0 * a1))) = some (r1, r2) := h
 clear h
 simp only [Option.some.injEq, Prod.mk.injEq] at H
 obtain ⟨rfl, rfl⟩ := H
 go_enter Tryd.func119, Tryd.ntmps119
 go_wp2
 go_ret2
 exact ⟨q60_, q69_⟩
def bits_Mul.f (a0 : Int) (a1 : Int) : Option (Int × Int) := (bits_Mul64.f a0 a1).bind fun bt410 => (some (bt410.1, bt410.2))
theorem bits_Mul.calls (a0 : Int) (a1 : Int) (r1 : Int) (r2 : Int) (w : World) (h : bits_Mul.f a0 a1 = some (r1, r2)) :
  Calls Tryd.prog 94 #[.int .u64 a0, .int .u64 a1] w fun e w' => e = .returned (.tuple #[.int .u64 r1, .int .u64 r2]) ∧ Drawn0 w w' := by
 have H : ((bits_Mul64.f a0 a1).bind fun bt410 => (some (bt410.1, bt410.2))) = some (r1, r2) := h
 clear h
 replace H := Option.bind_eq_some_iff.mp H
 obtain ⟨⟨t410, t411⟩, A30, H⟩ := H
 replace H : (some (t410, t411)) = some (r1, r2) := H
 have A3 := Aside0.mk A30
 clear A30
 simp only [Option.some.injEq, Prod.mk.injEq] at H
 obtain ⟨rfl, rfl⟩ := H
 go_enter Tryd.func94, Tryd.ntmps94
 go_wp2_with (first | ((with_reducible refine gate_callee (f := 119) rfl ?_); refine goesL_ (some 25) rfl rfl Tryd.func119 (by kernel_rfl) rfl #[.int .u64 a0, .int .u64 a1] rfl q43_ ?_; (with_reducible refine (bits_Mul64.calls a0 a1 t410 t411 _ A3.out).mono ?_); rintro e w' ⟨rfl, ⟨nd, rfl⟩⟩; refine ⟨_, rfl, ?_⟩))
 go_ret2
 exact ⟨q60_, q69_⟩
-- NOT PRINTED: function 95 (strings_Builder_Len)
def impl_noughts.f (a0 : Int) : Option (ByteArray) := (strings_Repeat.f (⟨#[0]⟩ : ByteArray) a0).bind fun t412 => (some t412)
theorem impl_noughts.calls (a0 : Int) (r : ByteArray) (w : World) (h : impl_noughts.f a0 = some r) :
  Calls Tryd.prog 53 #[.int .i64 a0] w fun e w' => e = .returned (.string r) ∧ Below w.heap.size w w' := by
 have HB := Aside0.mk (Below.refl w.heap.size w)
 have H : ((strings_Repeat.f (⟨#[0]⟩ : ByteArray) a0).bind fun t412 => (some t412)) = some r := h
 clear h
 replace H := Option.bind_eq_some_iff.mp H
 obtain ⟨t412, A20, H⟩ := H
 have A2 := Aside0.mk A20
 clear A20
 obtain rfl := Option.some.inj H
 go_enter Tryd.func53, Tryd.ntmps53
 go_wp2_with (first | ((with_reducible refine gate_callee (f := 69) rfl ?_); refine goesL_ (some 4) rfl rfl Tryd.func69 (by kernel_rfl) rfl #[.string (⟨#[0]⟩ : ByteArray), .int .i64 a0] rfl q43_ ?_; (with_reducible refine (strings_Repeat.calls (⟨#[0]⟩ : ByteArray) a0 t412 _ A2.out).mono ?_); rintro e w3 ⟨rfl, hb⟩; refine ⟨_, rfl, ?_⟩; replace HB := Aside0.mk (below_step q44_ hb); (try clear hb)))
 go_ret
 exact ⟨q48_, q44_⟩
def impl_laid.f (a0 : ByteArray) (a1 : Int) (a2 : ByteArray) : Option (ByteArray) := if 0 ≤ a1 then (if a1 ≤ (a0.size : Int) then (if (a0.extract 0 (a1 : Int).toNat).size + a2.size ≤ 9223372036854775807 then (if 0 ≤ (wrap64 (a1 + (a2.size : Int))) then (if (wrap64 (a1 + (a2.size : Int))) ≤ (a0.size : Int) then (if ((a0.extract 0 (a1 : Int).toNat) ++ a2).size + (a0.extract ((wrap64 (a1 + (a2.size : Int))) : Int).toNat a0.size).size ≤ 9223372036854775807 then (some (((a0.extract 0 (a1 : Int).toNat) ++ a2) ++ (a0.extract ((wrap64 (a1 + (a2.size : Int))) : Int).toNat a0.size))) else (none)) else (none)) else (none)) else (none)) else (none)) else (none)
theorem impl_laid.calls (a0 : ByteArray) (a1 : Int) (a2 : ByteArray) (r : ByteArray) (w : World) (h : impl_laid.f a0 a1 a2 = some r) :
  Calls Tryd.prog 54 #[.string a0, .int .i64 a1, .string a2] w fun e w' => e = .returned (.string r) ∧ Drawn0 w w' := by
 have H : (if 0 ≤ a1 then (if a1 ≤ (a0.size : Int) then (if (a0.extract 0 (a1 : Int).toNat).size + a2.size ≤ 9223372036854775807 then (if 0 ≤ (wrap64 (a1 + (a2.size : Int))) then (if (wrap64 (a1 + (a2.size : Int))) ≤ (a0.size : Int) then (if ((a0.extract 0 (a1 : Int).toNat) ++ a2).size + (a0.extract ((wrap64 (a1 + (a2.size : Int))) : Int).toNat a0.size).size ≤ 9223372036854775807 then (some (((a0.extract 0 (a1 : Int).toNat) ++ a2) ++ (a0.extract ((wrap64 (a1 + (a2.size : Int))) : Int).toNat a0.size))) else (none)) else (none)) else (none)) else (none)) else (none)) else (none)) = some r := h
 clear h
 by_cases c4 : 0 ≤ a1
 ·rw [if_pos c4] at H
  have c4b0 := eq_true c4
  have c4b1 : decide (0 ≤ a1) = true := decide_eq_true c4
  clear c4
  by_cases c5 : a1 ≤ (a0.size : Int)
  ·rw [if_pos c5] at H
   have c5b0 := eq_true c5
   have c5b1 : decide (a1 ≤ (a0.size : Int)) = true := decide_eq_true c5
   clear c5
   by_cases c6 : (a0.extract 0 (a1 : Int).toNat).size + a2.size ≤ 9223372036854775807
   ·rw [if_pos c6] at H
    have c6b0 := eq_true c6
    (try (have c6b0e := c6b0; simp only [ByteArray.size_append, ByteArray.size_extract, Nat.min_self, Nat.sub_zero] at c6b0e))
    (try (have c6b0f := c6b0e; simp only [show min (a1 : Int).toNat a0.size = (a1 : Int).toNat from Nat.min_eq_left (by have q_ : a1 ≤ (a0.size : Int) := of_decide_eq_true q71_; omega)] at c6b0f))
    have c6b1 : decide ((a0.extract 0 (a1 : Int).toNat).size + a2.size ≤ 9223372036854775807) = true := decide_eq_true c6
    (try (have c6b1e := c6b1; simp only [ByteArray.size_append, ByteArray.size_extract, Nat.min_self, Nat.sub_zero] at c6b1e))
    (try (have c6b1f := c6b1e; simp only [show min (a1 : Int).toNat a0.size = (a1 : Int).toNat from Nat.min_eq_left (by have q_ : a1 ≤ (a0.size : Int) := of_decide_eq_true q71_; omega)] at c6b1f))
    try have c6b2 : (9223372036854775807 < (a0.extract 0 (a1 : Int).toNat).size + a2.size) = False := eq_false (Nat.not_lt.2 c6)
    (try (have c6b2e := c6b2; simp only [ByteArray.size_append, ByteArray.size_extract, Nat.min_self, Nat.sub_zero] at c6b2e))
    (try (have c6b2f := c6b2e; simp only [show min (a1 : Int).toNat a0.size = (a1 : Int).toNat from Nat.min_eq_left (by have q_ : a1 ≤ (a0.size : Int) := of_decide_eq_true q71_; omega)] at c6b2f))
    obtain ⟨ji7, hji7⟩ : ∃ j_ : Int, (wrap64 (a1 + (a2.size : Int))) = j_ := ⟨_, rfl⟩
    replace H : (if 0 ≤ (ji7) then (if (ji7) ≤ (a0.size : Int) then (if ((a0.extract 0 (a1 : Int).toNat) ++ a2).size + (a0.extract ((ji7) : Int).toNat a0.size).size ≤ 9223372036854775807 then (some (((a0.extract 0 (a1 : Int).toNat) ++ a2) ++ (a0.extract ((ji7) : Int).toNat a0.size))) else (none)) else (none)) else (none)) = some r := by first | (rw [hji7] at H; exact H) | (simp only [hji7] at H ⊢; exact H)
    have hji7w : (IntKind.i64.wrap (a1 + (a2.size : Int))) = ji7 := (i64_w _).trans hji7
    by_cases c8 : 0 ≤ (ji7)
    ·rw [if_pos c8] at H
     have c8b0 := eq_true c8
     have c8b1 : decide (0 ≤ (ji7)) = true := decide_eq_true c8
     clear c8
     by_cases c9 : (ji7) ≤ (a0.size : Int)
     ·rw [if_pos c9] at H
      have c9b0 := eq_true c9
      have c9b1 : decide ((ji7) ≤ (a0.size : Int)) = true := decide_eq_true c9
      clear c9
      by_cases c10 : ((a0.extract 0 (a1 : Int).toNat) ++ a2).size + (a0.extract ((ji7) : Int).toNat a0.size).size ≤ 9223372036854775807
      ·rw [if_pos c10] at H
       have c10b0 := eq_true c10
       (try (have c10b0e := c10b0; simp only [ByteArray.size_append, ByteArray.size_extract, Nat.min_self, Nat.sub_zero] at c10b0e))
       (try (have c10b0f := c10b0e; simp only [show min (a1 : Int).toNat a0.size = (a1 : Int).toNat from Nat.min_eq_left (by have q_ : a1 ≤ (a0.size : Int) := of_decide_eq_true q71_; omega)] at c10b0f))
       have c10b1 : decide (((a0.extract 0 (a1 : Int).toNat) ++ a2).size + (a0.extract ((ji7) : Int).toNat a0.size).size ≤ 9223372036854775807) = true := decide_eq_true c10
       (try (have c10b1e := c10b1; simp only [ByteArray.size_append, ByteArray.size_extract, Nat.min_self, Nat.sub_zero] at c10b1e))
       (try (have c10b1f := c10b1e; simp only [show min (a1 : Int).toNat a0.size = (a1 : Int).toNat from Nat.min_eq_left (by have q_ : a1 ≤ (a0.size : Int) := of_decide_eq_true q71_; omega)] at c10b1f))
       try have c10b2 : (9223372036854775807 < ((a0.extract 0 (a1 : Int).toNat) ++ a2).size + (a0.extract ((ji7) : Int).toNat a0.size).size) = False := eq_false (Nat.not_lt.2 c10)
       (try (have c10b2e := c10b2; simp only [ByteArray.size_append, ByteArray.size_extract, Nat.min_self, Nat.sub_zero] at c10b2e))
       (try (have c10b2f := c10b2e; simp only [show min (a1 : Int).toNat a0.size = (a1 : Int).toNat from Nat.min_eq_left (by have q_ : a1 ≤ (a0.size : Int) := of_decide_eq_true q71_; omega)] at c10b2f))
       obtain rfl := Option.some.inj H
       go_enter Tryd.func54, Tryd.ntmps54
       go_wp2
       repeat (go_quiet (fail); try go_wp2)
       go_ret
       exact ⟨by first | rfl | (simp; done) | (simp only [← hji7] <;> (first | rfl | simp)) | (simp [*]; done) | (simp; decide +kernel) | (simp [wrap64]; done) | (simp [bne]; done), q69_⟩
      ·rw [if_neg c10] at H
       exact absurd H (by simp)
     ·rw [if_neg c9] at H
      exact absurd H (by simp)
    ·rw [if_neg c8] at H
     exact absurd H (by simp)
   ·rw [if_neg c6] at H
    exact absurd H (by simp)
  ·rw [if_neg c5] at H
   exact absurd H (by simp)
 ·rw [if_neg c4] at H
  exact absurd H (by simp)
end Go.Proofs.YtcohcndliaaacaaDoor.QFnFixed
