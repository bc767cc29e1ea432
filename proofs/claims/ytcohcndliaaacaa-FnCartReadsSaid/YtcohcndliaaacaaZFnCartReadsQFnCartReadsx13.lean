/- The machine's side of a law, written by a program of this session for this claim. -/
import Derived.Test.YtcohcndliaaacaaZFnCartReadsQq
import Derived.Test.YtcohcndliaaacaaZFnCartReadsQFnCartReadsx0
import Derived.Test.YtcohcndliaaacaaZFnCartReadsQFnCartReadsx1
import Derived.Test.YtcohcndliaaacaaZFnCartReadsQFnCartReadsx2
namespace Go.Proofs.Ytcohcndliaaacaa.QFnCartReads
open Go.Proofs.Ytcohcndliaaacaa.Qq
open Go.RowKit Go.Proofs.Ytcohcndliaaacaa.LibX Go.Proofs.Ytcohcndliaaacaa.LibC Go.Proofs.YtcohcndliaaacaaW.PrintWords Go.Proofs.YtcohcndliaaacaaW.PrintLast Go.Proofs.YtcohcndliaaacaaW.PrintMore
attribute [local go_sem] max2_int min2_int max_two min_two max_three min_three max_four min_four   -- for this text's walks alone
set_option maxHeartbeats 8000000
set_option maxRecDepth 100000
set_option linter.unusedVariables false
set_option linter.unusedSimpArgs false
def spec_l5Read.f (a0_0 : ByteArray) (a0_1 : Int) (a0_2 : Int) (a0_3 : ByteArray) (a0_4 : Int) (a0_5 : Bool) (a0_6 : Int) (a1 : Int) : Option (Int) := (spec_l1In.f a1 0 255).bind fun t503 => (if t503 = true then (if 0 ≤ a1 then (if a1 < (a0_0.size : Int) then (some (wrap64 (bt a0_0 a1))) else (none)) else (none)) else ((spec_l1In.f a1 256 511).bind fun t504 => (if t504 = true then ((spec_l5Banks.f a0_0).bind fun t505 => (if t505 = 0 then (none) else (if 0 ≤ (wrap64 ((wrap64 ((wrap64 ((Int.tmod a0_2 t505) * 256)) + a1)) - 256)) then (if (wrap64 ((wrap64 ((wrap64 ((Int.tmod a0_2 t505) * 256)) + a1)) - 256)) < (a0_0.size : Int) then (some (wrap64 (bt a0_0 (wrap64 ((wrap64 ((wrap64 ((Int.tmod a0_2 t505) * 256)) + a1)) - 256))))) else (none)) else (none)))) else (if a0_5 = true then ((spec_l1In.f a1 40960 41023).bind fun t506 => (if t506 = true then ((spec_l5RamBank.f a0_0 a0_1 a0_2 a0_3 a0_4 a0_5 a0_6).bind fun t507 => (if 0 ≤ (wrap64 ((wrap64 ((wrap64 (t507 * 64)) + a1)) - 40960)) then (if (wrap64 ((wrap64 ((wrap64 (t507 * 64)) + a1)) - 40960)) < (a0_3.size : Int) then (some (wrap64 (bt a0_3 (wrap64 ((wrap64 ((wrap64 (t507 * 64)) + a1)) - 40960))))) else (none)) else (none))) else (some 255))) else (some 255)))))
def spec_l5Read.T4 : Bool × List (List Nat × List Nat) := (true, [([], []), ([0], [0]), ([], []), ([2], [2]), ([], []), ([4], [4]), ([5], [5]), ([3, 6], [3, 6]), ([7], [7]), ([], []), ([8, 9], [8, 9]), ([10], [10]), ([1, 11], [1, 11]), ([12], [12]), ([13, 6, 0, 1, 2, 3, 4, 5, 6, 7, 8, 9, 10, 11, 12, 13], [13])])
def spec_l5Read.B4 : List Nat := [0, 1, 0, 4, 0, 16, 48, 124, 252, 0, 1020, 2044, 4095, 8191, 16383]
theorem spec_l5Read.tab4 : rtab .any (opsOf Try.f67 4) = spec_l5Read.T4 := by kernel_rfl
theorem spec_l5Read.bits4 : waitsOk spec_l5Read.T4.2 spec_l5Read.B4 = true := by kernel_rfl
def spec_l5Read.T6 : Bool × List (List Nat × List Nat) := (true, [([], []), ([0], [0]), ([], []), ([2], [2]), ([3], [3]), ([], []), ([4, 5], [4, 5]), ([6], [6]), ([1, 7], [1, 7]), ([8], [8]), ([9, 3, 0, 1, 2, 3, 4, 5, 6, 7, 8, 9], [9])])
def spec_l5Read.B6 : List Nat := [0, 1, 0, 4, 12, 0, 60, 124, 255, 511, 1023]
theorem spec_l5Read.tab6 : rtab .any (opsOf Try.f67 6) = spec_l5Read.T6 := by kernel_rfl
theorem spec_l5Read.bits6 : waitsOk spec_l5Read.T6.2 spec_l5Read.B6 = true := by kernel_rfl
theorem spec_l5Read.calls (a0_0 : ByteArray) (a0_1 : Int) (a0_2 : Int) (a0_3 : ByteArray) (a0_4 : Int) (a0_5 : Bool) (a0_6 : Int) (a1 : Int) (r : Int) (w : World) (h : spec_l5Read.f a0_0 a0_1 a0_2 a0_3 a0_4 a0_5 a0_6 a1 = some r) :
  Calls Try.prog 67 #[.agg #[.string a0_0, .int .i64 a0_1, .int .i64 a0_2, .string a0_3, .int .i64 a0_4, .bool a0_5, .int .i64 a0_6], .int .i64 a1] w fun e w' => e = .returned (.int .i64 r) ∧ Below w.heap.size w w' := by
 have hu32 := Try.underlying32
 have HB := Aside0.mk (Below.refl w.heap.size w)
 have H : ((spec_l1In.f a1 0 255).bind fun t503 => (if t503 = true then (if 0 ≤ a1 then (if a1 < (a0_0.size : Int) then (some (wrap64 (bt a0_0 a1))) else (none)) else (none)) else ((spec_l1In.f a1 256 511).bind fun t504 => (if t504 = true then ((spec_l5Banks.f a0_0).bind fun t505 => (if t505 = 0 then (none) else (if 0 ≤ (wrap64 ((wrap64 ((wrap64 ((Int.tmod a0_2 t505) * 256)) + a1)) - 256)) then (if (wrap64 ((wrap64 ((wrap64 ((Int.tmod a0_2 t505) * 256)) + a1)) - 256)) < (a0_0.size : Int) then (some (wrap64 (bt a0_0 (wrap64 ((wrap64 ((wrap64 ((Int.tmod a0_2 t505) * 256)) + a1)) - 256))))) else (none)) else (none)))) else (if a0_5 = true then ((spec_l1In.f a1 40960 41023).bind fun t506 => (if t506 = true then ((spec_l5RamBank.f a0_0 a0_1 a0_2 a0_3 a0_4 a0_5 a0_6).bind fun t507 => (if 0 ≤ (wrap64 ((wrap64 ((wrap64 (t507 * 64)) + a1)) - 40960)) then (if (wrap64 ((wrap64 ((wrap64 (t507 * 64)) + a1)) - 40960)) < (a0_3.size : Int) then (some (wrap64 (bt a0_3 (wrap64 ((wrap64 ((wrap64 (t507 * 64)) + a1)) - 40960))))) else (none)) else (none))) else (some 255))) else (some 255)))))) = some r := h
 clear h
 replace H := Option.bind_eq_some_iff.mp H
 obtain ⟨t503, A30, H⟩ := H
 have A3 := Aside0.mk A30
 clear A30
 by_cases c4 : t503 = true
 ·subst c4
  replace H : (if 0 ≤ a1 then (if a1 < (a0_0.size : Int) then (some (wrap64 (bt a0_0 a1))) else (none)) else (none)) = some r := by rw [if_pos rfl] at H; exact H
  by_cases c5 : 0 ≤ a1
  ·rw [if_pos c5] at H
   have c5b0 : decide (0 ≤ a1) = true := decide_eq_true c5
   clear c5
   by_cases c6 : a1 < (a0_0.size : Int)
   ·rw [if_pos c6] at H
    have c6b0 : decide (a1 < (a0_0.size : Int)) = true := decide_eq_true c6
    clear c6
    obtain rfl := Option.some.inj H
    go_enter Try.func67, Try.ntmps67
    go_wp2_with (first | ((with_reducible refine gate_dst (N := 2) rfl ?_); refine box_event ?hg (N := 2) ?hd (cs := #[.string a0_0, .int .i64 a0_1, .int .i64 a0_2, .string a0_3, .int .i64 a0_4, .bool a0_5, .int .i64 a0_6]) (t := 32) ?hr ?_; (case hd => rfl); (case hg => rfl); (case hr => exact q138_); intro gb502 hg w8 hbox hb; have n0_ := Aside0.mk (below_step q75_ hb); have n1_ := Aside0.mk (hbox); have n2_ := Aside0.mk ((q52_ : w.heap.size ≤ gb502)); have n3_ := Aside0.mk ((q52_ : w.heap.size ≤ gb502)); clear HB; have HB := n0_; have BK502 := n1_; have GW502 := n2_; have GE502 := n3_; clear n0_ n1_ n2_ n3_; clear hb hbox hg) | ((with_reducible refine gate_callee (f := 41) rfl ?_); refine goesL_ (some 7) rfl rfl Try.func41 (by kernel_rfl) rfl #[.int .i64 a1, .int .i64 0, .int .i64 255] rfl q74_ ?_; (with_reducible refine (spec_l1In.calls a1 0 255 true _ A3.out).mono ?_); rintro e w' ⟨rfl, ⟨nd, rfl⟩⟩; refine ⟨_, rfl, ?_⟩; have hcz9_0 : w8.cell? ⟨gb502, 0, none⟩ = some (.string a0_0) := (blk_cell BK502.out 0).trans rfl; have hcz9_1 : w8.cell? ⟨gb502, 1, none⟩ = some (.int .i64 a0_1) := (blk_cell BK502.out 1).trans rfl; have hcz9_2 : w8.cell? ⟨gb502, 2, none⟩ = some (.int .i64 a0_2) := (blk_cell BK502.out 2).trans rfl; have hcz9_3 : w8.cell? ⟨gb502, 3, none⟩ = some (.string a0_3) := (blk_cell BK502.out 3).trans rfl; have hcz9_4 : w8.cell? ⟨gb502, 4, none⟩ = some (.int .i64 a0_4) := (blk_cell BK502.out 4).trans rfl; have hcz9_5 : w8.cell? ⟨gb502, 5, none⟩ = some (.bool a0_5) := (blk_cell BK502.out 5).trans rfl; have hcz9_6 : w8.cell? ⟨gb502, 6, none⟩ = some (.int .i64 a0_6) := (blk_cell BK502.out 6).trans rfl; have hfz9_0 := blk_frozen BK502.out 0; have hfz9_1 := blk_frozen BK502.out 1; have hfz9_2 := blk_frozen BK502.out 2; have hfz9_3 := blk_frozen BK502.out 3; have hfz9_4 := blk_frozen BK502.out 4; have hfz9_5 := blk_frozen BK502.out 5; have hfz9_6 := blk_frozen BK502.out 6; have p7 : 0 ≤ (a1 : Int) := of_decide_eq_true q109_; have q7 : a1 < (a0_0.size : Int) := of_decide_eq_true q109_; have hx7 := bt_at a0_0 a1; replace p7 := eq_true p7; replace q7 := eq_true q7))
    go_ret
    exact ⟨q76_, q65_⟩
   ·rw [if_neg c6] at H
    exact absurd H (by simp)
  ·rw [if_neg c5] at H
   exact absurd H (by simp)
 ·replace c4 := Bool.eq_false_iff.mpr c4
  subst c4
  replace H : ((spec_l1In.f a1 256 511).bind fun t504 => (if t504 = true then ((spec_l5Banks.f a0_0).bind fun t505 => (if t505 = 0 then (none) else (if 0 ≤ (wrap64 ((wrap64 ((wrap64 ((Int.tmod a0_2 t505) * 256)) + a1)) - 256)) then (if (wrap64 ((wrap64 ((wrap64 ((Int.tmod a0_2 t505) * 256)) + a1)) - 256)) < (a0_0.size : Int) then (some (wrap64 (bt a0_0 (wrap64 ((wrap64 ((wrap64 ((Int.tmod a0_2 t505) * 256)) + a1)) - 256))))) else (none)) else (none)))) else (if a0_5 = true then ((spec_l1In.f a1 40960 41023).bind fun t506 => (if t506 = true then ((spec_l5RamBank.f a0_0 a0_1 a0_2 a0_3 a0_4 a0_5 a0_6).bind fun t507 => (if 0 ≤ (wrap64 ((wrap64 ((wrap64 (t507 * 64)) + a1)) - 40960)) then (if (wrap64 ((wrap64 ((wrap64 (t507 * 64)) + a1)) - 40960)) < (a0_3.size : Int) then (some (wrap64 (bt a0_3 (wrap64 ((wrap64 ((wrap64 (t507 * 64)) + a1)) - 40960))))) else (none)) else (none))) else (some 255))) else (some 255)))) = some r := by rw [if_neg (show ¬ (false = true) by decide)] at H; exact H
  replace H := Option.bind_eq_some_iff.mp H
  obtain ⟨t504, A100, H⟩ := H
  have A10 := Aside0.mk A100
  clear A100
  by_cases c11 : t504 = true
  ·subst c11
   replace H : ((spec_l5Banks.f a0_0).bind fun t505 => (if t505 = 0 then (none) else (if 0 ≤ (wrap64 ((wrap64 ((wrap64 ((Int.tmod a0_2 t505) * 256)) + a1)) - 256)) then (if (wrap64 ((wrap64 ((wrap64 ((Int.tmod a0_2 t505) * 256)) + a1)) - 256)) < (a0_0.size : Int) then (some (wrap64 (bt a0_0 (wrap64 ((wrap64 ((wrap64 ((Int.tmod a0_2 t505) * 256)) + a1)) - 256))))) else (none)) else (none)))) = some r := by rw [if_pos rfl] at H; exact H
   replace H := Option.bind_eq_some_iff.mp H
   obtain ⟨t505, A120, H⟩ := H
   have A12 := Aside0.mk A120
   clear A120
   by_cases c13 : t505 = 0
   ·rw [if_pos c13] at H
    exact absurd H (by simp)
   ·rw [if_neg c13] at H
    have c13b0 : (t505 == 0) = false := beq_eq_false_iff_ne.mpr c13
    have c13b1 : (t505 != 0) = true := bne_iff_ne.mpr c13
    obtain ⟨ji14, hji14⟩ : ∃ j_ : Int, (wrap64 ((wrap64 ((wrap64 ((Int.tmod a0_2 t505) * 256)) + a1)) - 256)) = j_ := ⟨_, rfl⟩
    replace H : (if 0 ≤ (ji14) then (if (ji14) < (a0_0.size : Int) then (some (wrap64 (bt a0_0 (ji14)))) else (none)) else (none)) = some r := by first | (rw [hji14] at H; exact H) | (simp only [hji14] at H ⊢; exact H)
    (try rw [hji14] at A3)
    (try rw [hji14] at A10)
    (try rw [hji14] at A12)
    have hji14w : (IntKind.i64.wrap ((wrap64 ((wrap64 ((Int.tmod a0_2 t505) * 256)) + a1)) - 256)) = ji14 := (i64_w _).trans hji14
    by_cases c15 : 0 ≤ (ji14)
    ·rw [if_pos c15] at H
     have c15b0 : decide (0 ≤ (ji14)) = true := decide_eq_true c15
     clear c15
     by_cases c16 : (ji14) < (a0_0.size : Int)
     ·rw [if_pos c16] at H
      have c16b0 : decide ((ji14) < (a0_0.size : Int)) = true := decide_eq_true c16
      clear c16
      obtain rfl := Option.some.inj H
      go_enter Try.func67, Try.ntmps67
      try go_wp2_with (first | ((with_reducible refine gate_dst (N := 2) rfl ?_); refine box_event ?hg (N := 2) ?hd (cs := #[.string a0_0, .int .i64 a0_1, .int .i64 a0_2, .string a0_3, .int .i64 a0_4, .bool a0_5, .int .i64 a0_6]) (t := 32) ?hr ?_; (case hd => rfl); (case hg => rfl); (case hr => exact q138_); intro gb502 hg w18 hbox hb; have n0_ := Aside0.mk (below_step q75_ hb); have n1_ := Aside0.mk (hbox); have n2_ := Aside0.mk ((q52_ : w.heap.size ≤ gb502)); have n3_ := Aside0.mk ((q52_ : w.heap.size ≤ gb502)); clear HB; have HB := n0_; have BK502 := n1_; have GW502 := n2_; have GE502 := n3_; clear n0_ n1_ n2_ n3_; clear hb hbox hg) | ((with_reducible refine gate_callee (f := 41) rfl ?_); refine goesL_ (some 7) rfl rfl Try.func41 (by kernel_rfl) rfl #[.int .i64 a1, .int .i64 0, .int .i64 255] rfl q74_ ?_; (with_reducible refine (spec_l1In.calls a1 0 255 false _ A3.out).mono ?_); rintro e w' ⟨rfl, ⟨nd, rfl⟩⟩; refine ⟨_, rfl, ?_⟩) | ((with_reducible refine gate_callee (f := 41) rfl ?_); refine goesL_ (some 15) rfl rfl Try.func41 (by kernel_rfl) rfl #[.int .i64 a1, .int .i64 256, .int .i64 511] rfl q74_ ?_; (with_reducible refine (spec_l1In.calls a1 256 511 true _ A10.out).mono ?_); rintro e w' ⟨rfl, ⟨nd, rfl⟩⟩; refine ⟨_, rfl, ?_⟩))
      (try (rw [drewN_self w18]; generalize hq_ : World.drewN w18 _ = w18; have n0_ : Aside0 (w18.heap[gb502]? = some (.cells #[.string a0_0, .int .i64 a0_1, .int .i64 a0_2, .string a0_3, .int .i64 a0_4, .bool a0_5, .int .i64 a0_6] 32 (0, 0))) := ⟨q73_⟩; have n1_ : Aside0 (Below w.heap.size w w18) := ⟨q45_⟩; clear BK502 HB hq_; have BK502 := n0_; have HB := n1_; clear n0_ n1_))
      have n0_ := Aside0.mk (blk_drew BK502.out)
      have n1_ := Aside0.mk (below_drew1 HB.out)
      clear BK502
      clear HB
      have BK502 := n0_
      have HB := n1_
      clear n0_ n1_
      refine start_ (n := 15) (S := fun w' => w'.cell? ⟨gb502, 0, none⟩ = some (.string a0_0) ∧ w'.cell? ⟨gb502, 1, none⟩ = some (.int .i64 a0_1) ∧ w'.cell? ⟨gb502, 2, none⟩ = some (.int .i64 a0_2) ∧ w'.cell? ⟨gb502, 3, none⟩ = some (.string a0_3) ∧ w'.cell? ⟨gb502, 4, none⟩ = some (.int .i64 a0_4) ∧ w'.cell? ⟨gb502, 5, none⟩ = some (.bool a0_5) ∧ w'.cell? ⟨gb502, 6, none⟩ = some (.int .i64 a0_6)) (ds := []) #[false, false, false, false, false, false, false, false, false, false, false, false, false, false, false] (by kernel_rfl) rfl rfl ⟨(blk_cell BK502.out 0).trans rfl, (blk_cell BK502.out 1).trans rfl, (blk_cell BK502.out 2).trans rfl, (blk_cell BK502.out 3).trans rfl, (blk_cell BK502.out 4).trans rfl, (blk_cell BK502.out 5).trans rfl, (blk_cell BK502.out 6).trans rfl⟩ (fun hHeld => ?_); refine with_tabW spec_l5Read.tab4 spec_l5Read.bits4 (fun HT_ HW_ => ?_)
      generalize w18.drew = w19 at BK502 HB hHeld ⊢
      refine pure_ (i := 0) (N := some 16) (v := ?_) (a' := ?_) #[true, false, false, false, false, false, false, false, false, false, false, false, false, false, false] rfl rfl (any_of HT_.out (by kernel_rfl)) (fun _ _ _ h => h) (Or.inl ⟨by rfl, ?_⟩) ?_ ?_
      rotate_left
      ·intro w'
       go_simp
       with_reducible rfl
      rotate_left
      ·simp only [Act.put, List.setIfInBounds_toArray, List.set_cons_zero, List.set_cons_succ, i64_w, i32_w]
       rfl
      refine pure_ (i := 2) (N := some 18) (v := ?_) (a' := ?_) #[true, false, true, false, false, false, false, false, false, false, false, false, false, false, false] rfl rfl (any_of HT_.out (by kernel_rfl)) (fun _ _ _ h => h) (Or.inl ⟨by rfl, ?_⟩) ?_ ?_
      rotate_left
      ·intro w'
       go_simp
       with_reducible rfl
      rotate_left
      ·simp only [Act.put, List.setIfInBounds_toArray, List.set_cons_zero, List.set_cons_succ, i64_w, i32_w]
       rfl
      refine pure_ (i := 4) (N := some 20) (v := ?_) (a' := ?_) #[true, false, true, false, true, false, false, false, false, false, false, false, false, false, false] rfl rfl (any_of HT_.out (by kernel_rfl)) (fun _ _ _ h => h) (Or.inl ⟨by rfl, ?_⟩) ?_ ?_
      rotate_left
      ·intro w'
       go_simp
       with_reducible rfl
      rotate_left
      ·simp only [Act.put, List.setIfInBounds_toArray, List.set_cons_zero, List.set_cons_succ, i64_w, i32_w]
       rfl
      refine pure_ (i := 9) (N := some 25) (v := ?_) (a' := ?_) #[true, false, true, false, true, false, false, false, false, true, false, false, false, false, false] rfl rfl (any_of HT_.out (by kernel_rfl)) (fun _ _ _ h => h) (Or.inl ⟨by rfl, ?_⟩) ?_ ?_
      rotate_left
      ·intro w'
       go_simp
       with_reducible rfl
      rotate_left
      ·simp only [Act.put, List.setIfInBounds_toArray, List.set_cons_zero, List.set_cons_succ, i64_w, i32_w]
       rfl
      refine take_ (i := 1) (N := some 17) (v := ?_) (a' := ?_) #[true, true, true, false, true, false, false, false, false, true, false, false, false, false, false] rfl rfl (take_ofW HT_.out HW_.out (by kernel_rfl)) (fun _ _ _ h => h) (Or.inl ⟨by rfl, ?_⟩) hHeld ?_ ?_
      rotate_left
      ·rintro w' ⟨s0, s1, s2, s3, s4, s5, s6⟩
       go_simp
       with_reducible rfl
      rotate_left
      ·simp only [Act.put, List.setIfInBounds_toArray, List.set_cons_zero, List.set_cons_succ, i64_w, i32_w]
       rfl
      refine take_ (i := 3) (N := some 19) (v := ?_) (a' := ?_) #[true, true, true, true, true, false, false, false, false, true, false, false, false, false, false] rfl rfl (take_ofW HT_.out HW_.out (by kernel_rfl)) (fun _ _ _ h => h) (Or.inl ⟨by rfl, ?_⟩) hHeld ?_ ?_
      rotate_left
      ·rintro w' ⟨s0, s1, s2, s3, s4, s5, s6⟩
       go_simp
       with_reducible rfl
      rotate_left
      ·simp only [Act.put, List.setIfInBounds_toArray, List.set_cons_zero, List.set_cons_succ, i64_w, i32_w]
       rfl
      refine take_ (i := 5) (N := some 21) (v := ?_) (a' := ?_) #[true, true, true, true, true, true, false, false, false, true, false, false, false, false, false] rfl rfl (take_ofW HT_.out HW_.out (by kernel_rfl)) (fun _ _ _ h => h) (Or.inl ⟨by rfl, ?_⟩) hHeld ?_ ?_
      rotate_left
      ·rintro w' ⟨s0, s1, s2, s3, s4, s5, s6⟩
       go_simp
       with_reducible rfl
      rotate_left
      ·simp only [Act.put, List.setIfInBounds_toArray, List.set_cons_zero, List.set_cons_succ, i64_w, i32_w]
       rfl
      refine one_ (i := 6) (N := some 22) #[true, true, true, true, true, true, true, false, false, true, false, false, false, false, false] rfl rfl (one_of HT_.out (by kernel_rfl)) (by decide) (fun K hK => ?_)
      refine goes_ Try.func68 (by kernel_rfl) rfl #[.string a0_0] (by rfl) rfl rfl q74_ ?_
      with_reducible refine (spec_l5Banks.calls a0_0 t505 _ A12.out).mono ?_
      rintro e w' ⟨rfl, ⟨nd, rfl⟩⟩
      refine ⟨_, rfl, ?_⟩
      have p17 : 0 ≤ ((ji14) : Int) := of_decide_eq_true q109_
      have q17 : (ji14) < (a0_0.size : Int) := of_decide_eq_true q109_
      have hx17 := bt_at a0_0 (ji14)
      replace p17 := eq_true p17
      replace q17 := eq_true q17
      refine hK.out _ _ ⟨(blk_cell BK502.out 0).trans rfl, (blk_cell BK502.out 1).trans rfl, (blk_cell BK502.out 2).trans rfl, (blk_cell BK502.out 3).trans rfl, (blk_cell BK502.out 4).trans rfl, (blk_cell BK502.out 5).trans rfl, (blk_cell BK502.out 6).trans rfl⟩ (fun hHeld => ?_)
      clear hK K
      refine norm_ (a' := ?_) ?_ ?_
      rotate_left
      ·show Act.put _ (some 22) _ = _
       simp only [Act.put, List.setIfInBounds_toArray, List.set_cons_zero, List.set_cons_succ, i64_w, i32_w]
       rfl
      refine pure_ (i := 7) (N := some 23) (v := ?_) (a' := ?_) #[true, true, true, true, true, true, true, true, false, true, false, false, false, false, false] rfl rfl (any_of HT_.out (by kernel_rfl)) (fun _ _ _ h => h) (Or.inl ⟨by rfl, ?_⟩) ?_ ?_
      rotate_left
      ·intro w'
       go_simp
       with_reducible rfl
      rotate_left
      ·simp only [Act.put, List.setIfInBounds_toArray, List.set_cons_zero, List.set_cons_succ, i64_w, i32_w]
       rfl
      refine pure_ (i := 8) (N := some 24) (v := ?_) (a' := ?_) #[true, true, true, true, true, true, true, true, true, true, false, false, false, false, false] rfl rfl (any_of HT_.out (by kernel_rfl)) (fun _ _ _ h => h) (Or.inl ⟨by rfl, ?_⟩) ?_ ?_
      rotate_left
      ·intro w'
       go_simp
       with_reducible rfl
      rotate_left
      ·simp only [Act.put, List.setIfInBounds_toArray, List.set_cons_zero, List.set_cons_succ, i64_w, i32_w]
       rfl
      refine pure_ (i := 10) (N := some 26) (v := ?_) (a' := ?_) #[true, true, true, true, true, true, true, true, true, true, true, false, false, false, false] rfl rfl (any_of HT_.out (by kernel_rfl)) (fun _ _ _ h => h) (Or.inl ⟨by rfl, ?_⟩) ?_ ?_
      rotate_left
      ·intro w'
       go_simp
       with_reducible rfl
      rotate_left
      ·simp only [Act.put, List.setIfInBounds_toArray, List.set_cons_zero, List.set_cons_succ, i64_w, i32_w]
       rfl
      refine pure_ (i := 11) (N := some 27) (v := ?_) (a' := ?_) #[true, true, true, true, true, true, true, true, true, true, true, true, false, false, false] rfl rfl (any_of HT_.out (by kernel_rfl)) (fun _ _ _ h => h) (Or.inl ⟨by rfl, ?_⟩) ?_ ?_
      rotate_left
      ·intro w'
       go_simp
       with_reducible rfl
      rotate_left
      ·simp only [Act.put, List.setIfInBounds_toArray, List.set_cons_zero, List.set_cons_succ, i64_w, i32_w]
       rfl
      refine take_ (i := 12) (N := some 28) (v := ?_) (a' := ?_) #[true, true, true, true, true, true, true, true, true, true, true, true, true, false, false] rfl rfl (take_ofW HT_.out HW_.out (by kernel_rfl)) (fun _ _ _ h => h) (Or.inl ⟨by rfl, ?_⟩) hHeld ?_ ?_
      rotate_left
      ·rintro w' ⟨s0, s1, s2, s3, s4, s5, s6⟩
       go_simp
       with_reducible rfl
      rotate_left
      ·simp only [Act.put, List.setIfInBounds_toArray, List.set_cons_zero, List.set_cons_succ, i64_w, i32_w]
       rfl
      refine pure_ (i := 13) (N := some 29) (v := ?_) (a' := ?_) #[true, true, true, true, true, true, true, true, true, true, true, true, true, true, false] rfl rfl (any_of HT_.out (by kernel_rfl)) (fun _ _ _ h => h) (Or.inl ⟨by rfl, ?_⟩) ?_ ?_
      rotate_left
      ·intro w'
       go_simp
       with_reducible rfl
      rotate_left
      ·simp only [Act.put, List.setIfInBounds_toArray, List.set_cons_zero, List.set_cons_succ, i64_w, i32_w]
       rfl
      refine pure_ (i := 14) (N := some 4) (v := ?_) (a' := ?_) #[true, true, true, true, true, true, true, true, true, true, true, true, true, true, true] rfl rfl (any_of HT_.out (by kernel_rfl)) (fun _ _ _ h => h) (Or.inl ⟨by rfl, ?_⟩) ?_ ?_
      rotate_left
      ·intro w'
       go_simp
       with_reducible rfl
      rotate_left
      ·simp only [Act.put, List.setIfInBounds_toArray, List.set_cons_zero, List.set_cons_succ, i64_w, i32_w]
       rfl
      refine done_ (done_of HT_.out (by kernel_rfl)) ?_
      try go_wp2
      go_ret
      exact ⟨q37_, q65_⟩
     ·rw [if_neg c16] at H
      exact absurd H (by simp)
    ·rw [if_neg c15] at H
     exact absurd H (by simp)
  ·replace c11 := Bool.eq_false_iff.mpr c11
   subst c11
   replace H : (if a0_5 = true then ((spec_l1In.f a1 40960 41023).bind fun t506 => (if t506 = true then ((spec_l5RamBank.f a0_0 a0_1 a0_2 a0_3 a0_4 a0_5 a0_6).bind fun t507 => (if 0 ≤ (wrap64 ((wrap64 ((wrap64 (t507 * 64)) + a1)) - 40960)) then (if (wrap64 ((wrap64 ((wrap64 (t507 * 64)) + a1)) - 40960)) < (a0_3.size : Int) then (some (wrap64 (bt a0_3 (wrap64 ((wrap64 ((wrap64 (t507 * 64)) + a1)) - 40960))))) else (none)) else (none))) else (some 255))) else (some 255)) = some r := by rw [if_neg (show ¬ (false = true) by decide)] at H; exact H
   by_cases c20 : a0_5 = true
   ·subst c20
    replace H : ((spec_l1In.f a1 40960 41023).bind fun t506 => (if t506 = true then ((spec_l5RamBank.f a0_0 a0_1 a0_2 a0_3 a0_4 true a0_6).bind fun t507 => (if 0 ≤ (wrap64 ((wrap64 ((wrap64 (t507 * 64)) + a1)) - 40960)) then (if (wrap64 ((wrap64 ((wrap64 (t507 * 64)) + a1)) - 40960)) < (a0_3.size : Int) then (some (wrap64 (bt a0_3 (wrap64 ((wrap64 ((wrap64 (t507 * 64)) + a1)) - 40960))))) else (none)) else (none))) else (some 255))) = some r := by rw [if_pos rfl] at H; exact H
    replace H := Option.bind_eq_some_iff.mp H
    obtain ⟨t506, A210, H⟩ := H
    have A21 := Aside0.mk A210
    clear A210
    by_cases c22 : t506 = true
    ·subst c22
     replace H : ((spec_l5RamBank.f a0_0 a0_1 a0_2 a0_3 a0_4 true a0_6).bind fun t507 => (if 0 ≤ (wrap64 ((wrap64 ((wrap64 (t507 * 64)) + a1)) - 40960)) then (if (wrap64 ((wrap64 ((wrap64 (t507 * 64)) + a1)) - 40960)) < (a0_3.size : Int) then (some (wrap64 (bt a0_3 (wrap64 ((wrap64 ((wrap64 (t507 * 64)) + a1)) - 40960))))) else (none)) else (none))) = some r := by rw [if_pos rfl] at H; exact H
     replace H := Option.bind_eq_some_iff.mp H
     obtain ⟨t507, A230, H⟩ := H
     have A23 := Aside0.mk A230
     clear A230
     obtain ⟨ji24, hji24⟩ : ∃ j_ : Int, (wrap64 ((wrap64 ((wrap64 (t507 * 64)) + a1)) - 40960)) = j_ := ⟨_, rfl⟩
     replace H : (if 0 ≤ (ji24) then (if (ji24) < (a0_3.size : Int) then (some (wrap64 (bt a0_3 (ji24)))) else (none)) else (none)) = some r := by first | (rw [hji24] at H; exact H) | (simp only [hji24] at H ⊢; exact H)
     (try rw [hji24] at A3)
     (try rw [hji24] at A10)
     (try rw [hji24] at A21)
     (try rw [hji24] at A23)
     have hji24w : (IntKind.i64.wrap ((wrap64 ((wrap64 (t507 * 64)) + a1)) - 40960)) = ji24 := (i64_w _).trans hji24
     by_cases c25 : 0 ≤ (ji24)
     ·rw [if_pos c25] at H
      have c25b0 : decide (0 ≤ (ji24)) = true := decide_eq_true c25
      clear c25
      by_cases c26 : (ji24) < (a0_3.size : Int)
      ·rw [if_pos c26] at H
       have c26b0 : decide ((ji24) < (a0_3.size : Int)) = true := decide_eq_true c26
       clear c26
       obtain rfl := Option.some.inj H
       go_enter Try.func67, Try.ntmps67
       try go_wp2_with (first | ((with_reducible refine gate_dst (N := 2) rfl ?_); refine box_event ?hg (N := 2) ?hd (cs := #[.string a0_0, .int .i64 a0_1, .int .i64 a0_2, .string a0_3, .int .i64 a0_4, .bool true, .int .i64 a0_6]) (t := 32) ?hr ?_; (case hd => rfl); (case hg => rfl); (case hr => exact q138_); intro gb502 hg w28 hbox hb; have n0_ := Aside0.mk (below_step q75_ hb); have n1_ := Aside0.mk (hbox); have n2_ := Aside0.mk ((q52_ : w.heap.size ≤ gb502)); have n3_ := Aside0.mk ((q52_ : w.heap.size ≤ gb502)); clear HB; have HB := n0_; have BK502 := n1_; have GW502 := n2_; have GE502 := n3_; clear n0_ n1_ n2_ n3_; clear hb hbox hg) | ((with_reducible refine gate_callee (f := 41) rfl ?_); refine goesL_ (some 7) rfl rfl Try.func41 (by kernel_rfl) rfl #[.int .i64 a1, .int .i64 0, .int .i64 255] rfl q74_ ?_; (with_reducible refine (spec_l1In.calls a1 0 255 false _ A3.out).mono ?_); rintro e w' ⟨rfl, ⟨nd, rfl⟩⟩; refine ⟨_, rfl, ?_⟩) | ((with_reducible refine gate_callee (f := 41) rfl ?_); refine goesL_ (some 15) rfl rfl Try.func41 (by kernel_rfl) rfl #[.int .i64 a1, .int .i64 256, .int .i64 511] rfl q74_ ?_; (with_reducible refine (spec_l1In.calls a1 256 511 false _ A10.out).mono ?_); rintro e w' ⟨rfl, ⟨nd, rfl⟩⟩; refine ⟨_, rfl, ?_⟩; have hcz29_0 : w28.cell? ⟨gb502, 0, none⟩ = some (.string a0_0) := (blk_cell BK502.out 0).trans rfl; have hcz29_1 : w28.cell? ⟨gb502, 1, none⟩ = some (.int .i64 a0_1) := (blk_cell BK502.out 1).trans rfl; have hcz29_2 : w28.cell? ⟨gb502, 2, none⟩ = some (.int .i64 a0_2) := (blk_cell BK502.out 2).trans rfl; have hcz29_3 : w28.cell? ⟨gb502, 3, none⟩ = some (.string a0_3) := (blk_cell BK502.out 3).trans rfl; have hcz29_4 : w28.cell? ⟨gb502, 4, none⟩ = some (.int .i64 a0_4) := (blk_cell BK502.out 4).trans rfl; have hcz29_5 : w28.cell? ⟨gb502, 5, none⟩ = some (.bool true) := (blk_cell BK502.out 5).trans rfl; have hcz29_6 : w28.cell? ⟨gb502, 6, none⟩ = some (.int .i64 a0_6) := (blk_cell BK502.out 6).trans rfl; have hfz29_0 := blk_frozen BK502.out 0; have hfz29_1 := blk_frozen BK502.out 1; have hfz29_2 := blk_frozen BK502.out 2; have hfz29_3 := blk_frozen BK502.out 3; have hfz29_4 := blk_frozen BK502.out 4; have hfz29_5 := blk_frozen BK502.out 5; have hfz29_6 := blk_frozen BK502.out 6) | (go_at_call 41; (with_reducible refine (spec_l1In.calls a1 40960 41023 true _ A21.out).mono ?_); rintro e w' ⟨rfl, ⟨nd, rfl⟩⟩))
       (try (rw [drewN_self w28]; generalize hq_ : World.drewN w28 _ = w28; have n0_ : Aside0 (w28.heap[gb502]? = some (.cells #[.string a0_0, .int .i64 a0_1, .int .i64 a0_2, .string a0_3, .int .i64 a0_4, .bool true, .int .i64 a0_6] 32 (0, 0))) := ⟨q73_⟩; have n1_ : Aside0 (Below w.heap.size w w28) := ⟨q45_⟩; clear BK502 HB hq_; have BK502 := n0_; have HB := n1_; clear n0_ n1_))
       have n0_ := Aside0.mk (blk_drew BK502.out)
       have n1_ := Aside0.mk (below_drew1 HB.out)
       clear BK502
       clear HB
       have BK502 := n0_
       have HB := n1_
       clear n0_ n1_
       refine start_ (n := 11) (S := fun w' => w'.cell? ⟨gb502, 0, none⟩ = some (.string a0_0) ∧ w'.cell? ⟨gb502, 1, none⟩ = some (.int .i64 a0_1) ∧ w'.cell? ⟨gb502, 2, none⟩ = some (.int .i64 a0_2) ∧ w'.cell? ⟨gb502, 3, none⟩ = some (.string a0_3) ∧ w'.cell? ⟨gb502, 4, none⟩ = some (.int .i64 a0_4) ∧ w'.cell? ⟨gb502, 5, none⟩ = some (.bool true) ∧ w'.cell? ⟨gb502, 6, none⟩ = some (.int .i64 a0_6)) (ds := []) #[false, false, false, false, false, false, false, false, false, false, false] (by kernel_rfl) rfl rfl ⟨(blk_cell BK502.out 0).trans rfl, (blk_cell BK502.out 1).trans rfl, (blk_cell BK502.out 2).trans rfl, (blk_cell BK502.out 3).trans rfl, (blk_cell BK502.out 4).trans rfl, (blk_cell BK502.out 5).trans rfl, (blk_cell BK502.out 6).trans rfl⟩ (fun hHeld => ?_); refine with_tabW spec_l5Read.tab6 spec_l5Read.bits6 (fun HT_ HW_ => ?_)
       generalize w28.drew = w30 at BK502 HB hHeld ⊢
       refine pure_ (i := 0) (N := some 37) (v := ?_) (a' := ?_) #[true, false, false, false, false, false, false, false, false, false, false] rfl rfl (any_of HT_.out (by kernel_rfl)) (fun _ _ _ h => h) (Or.inl ⟨by rfl, ?_⟩) ?_ ?_
       rotate_left
       ·intro w'
        go_simp
        with_reducible rfl
       rotate_left
       ·simp only [Act.put, List.setIfInBounds_toArray, List.set_cons_zero, List.set_cons_succ, i64_w, i32_w]
        rfl
       refine pure_ (i := 5) (N := some 42) (v := ?_) (a' := ?_) #[true, false, false, false, false, true, false, false, false, false, false] rfl rfl (any_of HT_.out (by kernel_rfl)) (fun _ _ _ h => h) (Or.inl ⟨by rfl, ?_⟩) ?_ ?_
       rotate_left
       ·intro w'
        go_simp
        with_reducible rfl
       rotate_left
       ·simp only [Act.put, List.setIfInBounds_toArray, List.set_cons_zero, List.set_cons_succ, i64_w, i32_w]
        rfl
       refine take_ (i := 1) (N := some 38) (v := ?_) (a' := ?_) #[true, true, false, false, false, true, false, false, false, false, false] rfl rfl (take_ofW HT_.out HW_.out (by kernel_rfl)) (fun _ _ _ h => h) (Or.inl ⟨by rfl, ?_⟩) hHeld ?_ ?_
       rotate_left
       ·rintro w' ⟨s0, s1, s2, s3, s4, s5, s6⟩
        go_simp
        with_reducible rfl
       rotate_left
       ·simp only [Act.put, List.setIfInBounds_toArray, List.set_cons_zero, List.set_cons_succ, i64_w, i32_w]
        rfl
       refine take_ (i := 2) (N := some 39) (v := ?_) (a' := ?_) #[true, true, true, false, false, true, false, false, false, false, false] rfl rfl (take_ofW HT_.out HW_.out (by kernel_rfl)) (fun _ _ _ h => h) (Or.inl ⟨by rfl, ?_⟩) hHeld ?_ ?_
       rotate_left
       ·rintro w' ⟨s0, s1, s2, s3, s4, s5, s6⟩
        go_simp
        with_reducible rfl
       rotate_left
       ·simp only [Act.put, List.setIfInBounds_toArray, List.set_cons_zero, List.set_cons_succ, i64_w, i32_w]
        rfl
       refine one_ (i := 3) (N := some 40) #[true, true, true, true, false, true, false, false, false, false, false] rfl rfl (one_of HT_.out (by kernel_rfl)) (by decide) (fun K hK => ?_)
       refine goes_ Try.func78 (by kernel_rfl) rfl #[.agg #[.string a0_0, .int .i64 a0_1, .int .i64 a0_2, .string a0_3, .int .i64 a0_4, .bool true, .int .i64 a0_6]] (by rfl) rfl rfl q74_ ?_
       with_reducible refine (spec_l5RamBank.calls a0_0 a0_1 a0_2 a0_3 a0_4 true a0_6 t507 _ A23.out).mono ?_
       rintro e w31 ⟨rfl, hb⟩
       refine ⟨_, rfl, ?_⟩
       have n0_ := Aside0.mk (blk_below (g := gb502) (o := .cells #[.string a0_0, .int .i64 a0_1, .int .i64 a0_2, .string a0_3, .int .i64 a0_4, .bool true, .int .i64 a0_6] 32 (0, 0)) (by (with_reducible repeat (first | refine blk_drewN ?_ _ | refine blk_drew ?_ | refine blk_alloc ?_ _)); exact BK502.out) hb)
       have n1_ := Aside0.mk (below_step q65_ hb)
       clear BK502
       clear HB
       have BK502 := n0_
       have HB := n1_
       clear n0_ n1_
       (try clear hb)
       (try clear hb2)
       (try clear hk)
       (try clear hi)
       have p27 : 0 ≤ ((ji24) : Int) := of_decide_eq_true q109_
       have q27 : (ji24) < (a0_3.size : Int) := of_decide_eq_true q109_
       have hx27 := bt_at a0_3 (ji24)
       replace p27 := eq_true p27
       replace q27 := eq_true q27
       refine hK.out _ _ ⟨(blk_cell BK502.out 0).trans rfl, (blk_cell BK502.out 1).trans rfl, (blk_cell BK502.out 2).trans rfl, (blk_cell BK502.out 3).trans rfl, (blk_cell BK502.out 4).trans rfl, (blk_cell BK502.out 5).trans rfl, (blk_cell BK502.out 6).trans rfl⟩ (fun hHeld => ?_)
       clear hK K
       refine norm_ (a' := ?_) ?_ ?_
       rotate_left
       ·show Act.put _ (some 40) _ = _
        simp only [Act.put, List.setIfInBounds_toArray, List.set_cons_zero, List.set_cons_succ, i64_w, i32_w]
        rfl
       refine pure_ (i := 4) (N := some 41) (v := ?_) (a' := ?_) #[true, true, true, true, true, true, false, false, false, false, false] rfl rfl (any_of HT_.out (by kernel_rfl)) (fun _ _ _ h => h) (Or.inl ⟨by rfl, ?_⟩) ?_ ?_
       rotate_left
       ·intro w'
        go_simp
        with_reducible rfl
       rotate_left
       ·simp only [Act.put, List.setIfInBounds_toArray, List.set_cons_zero, List.set_cons_succ, i64_w, i32_w]
        rfl
       refine pure_ (i := 6) (N := some 43) (v := ?_) (a' := ?_) #[true, true, true, true, true, true, true, false, false, false, false] rfl rfl (any_of HT_.out (by kernel_rfl)) (fun _ _ _ h => h) (Or.inl ⟨by rfl, ?_⟩) ?_ ?_
       rotate_left
       ·intro w'
        go_simp
        with_reducible rfl
       rotate_left
       ·simp only [Act.put, List.setIfInBounds_toArray, List.set_cons_zero, List.set_cons_succ, i64_w, i32_w]
        rfl
       refine pure_ (i := 7) (N := some 44) (v := ?_) (a' := ?_) #[true, true, true, true, true, true, true, true, false, false, false] rfl rfl (any_of HT_.out (by kernel_rfl)) (fun _ _ _ h => h) (Or.inl ⟨by rfl, ?_⟩) ?_ ?_
       rotate_left
       ·intro w'
        go_simp
        with_reducible rfl
       rotate_left
       ·simp only [Act.put, List.setIfInBounds_toArray, List.set_cons_zero, List.set_cons_succ, i64_w, i32_w]
        rfl
       refine take_ (i := 8) (N := some 45) (v := ?_) (a' := ?_) #[true, true, true, true, true, true, true, true, true, false, false] rfl rfl (take_ofW HT_.out HW_.out (by kernel_rfl)) (fun _ _ _ h => h) (Or.inl ⟨by rfl, ?_⟩) hHeld ?_ ?_
       rotate_left
       ·rintro w' ⟨s0, s1, s2, s3, s4, s5, s6⟩
        go_simp
        with_reducible rfl
       rotate_left
       ·simp only [Act.put, List.setIfInBounds_toArray, List.set_cons_zero, List.set_cons_succ, i64_w, i32_w]
        rfl
       refine pure_ (i := 9) (N := some 46) (v := ?_) (a' := ?_) #[true, true, true, true, true, true, true, true, true, true, false] rfl rfl (any_of HT_.out (by kernel_rfl)) (fun _ _ _ h => h) (Or.inl ⟨by rfl, ?_⟩) ?_ ?_
       rotate_left
       ·intro w'
        go_simp
        with_reducible rfl
       rotate_left
       ·simp only [Act.put, List.setIfInBounds_toArray, List.set_cons_zero, List.set_cons_succ, i64_w, i32_w]
        rfl
       refine pure_ (i := 10) (N := some 4) (v := ?_) (a' := ?_) #[true, true, true, true, true, true, true, true, true, true, true] rfl rfl (any_of HT_.out (by kernel_rfl)) (fun _ _ _ h => h) (Or.inl ⟨by rfl, ?_⟩) ?_ ?_
       rotate_left
       ·intro w'
        go_simp
        with_reducible rfl
       rotate_left
       ·simp only [Act.put, List.setIfInBounds_toArray, List.set_cons_zero, List.set_cons_succ, i64_w, i32_w]
        rfl
       refine done_ (done_of HT_.out (by kernel_rfl)) ?_
       try go_wp2
       go_ret
       exact ⟨by first | rfl | (simp [errW_none, errW_some] <;> rfl) | (simp only [← hji24]; first | rfl | (simp [errW_none, errW_some] <;> rfl)) | (simp [*, errW_none, errW_some] <;> rfl) | (exfalso; simp_all; done), q65_⟩
      ·rw [if_neg c26] at H
       exact absurd H (by simp)
     ·rw [if_neg c25] at H
      exact absurd H (by simp)
    ·replace c22 := Bool.eq_false_iff.mpr c22
     subst c22
     replace H : (some 255) = some r := by rw [if_neg (show ¬ (false = true) by decide)] at H; exact H
     obtain rfl := Option.some.inj H
     go_enter Try.func67, Try.ntmps67
     go_wp2_with (first | ((with_reducible refine gate_dst (N := 2) rfl ?_); refine box_event ?hg (N := 2) ?hd (cs := #[.string a0_0, .int .i64 a0_1, .int .i64 a0_2, .string a0_3, .int .i64 a0_4, .bool true, .int .i64 a0_6]) (t := 32) ?hr ?_; (case hd => rfl); (case hg => rfl); (case hr => exact q138_); intro gb502 hg w32 hbox hb; have n0_ := Aside0.mk (below_step q75_ hb); have n1_ := Aside0.mk (hbox); have n2_ := Aside0.mk ((q52_ : w.heap.size ≤ gb502)); have n3_ := Aside0.mk ((q52_ : w.heap.size ≤ gb502)); clear HB; have HB := n0_; have BK502 := n1_; have GW502 := n2_; have GE502 := n3_; clear n0_ n1_ n2_ n3_; clear hb hbox hg) | ((with_reducible refine gate_callee (f := 41) rfl ?_); refine goesL_ (some 7) rfl rfl Try.func41 (by kernel_rfl) rfl #[.int .i64 a1, .int .i64 0, .int .i64 255] rfl q74_ ?_; (with_reducible refine (spec_l1In.calls a1 0 255 false _ A3.out).mono ?_); rintro e w' ⟨rfl, ⟨nd, rfl⟩⟩; refine ⟨_, rfl, ?_⟩) | ((with_reducible refine gate_callee (f := 41) rfl ?_); refine goesL_ (some 15) rfl rfl Try.func41 (by kernel_rfl) rfl #[.int .i64 a1, .int .i64 256, .int .i64 511] rfl q74_ ?_; (with_reducible refine (spec_l1In.calls a1 256 511 false _ A10.out).mono ?_); rintro e w' ⟨rfl, ⟨nd, rfl⟩⟩; refine ⟨_, rfl, ?_⟩; have hcz33_0 : w32.cell? ⟨gb502, 0, none⟩ = some (.string a0_0) := (blk_cell BK502.out 0).trans rfl; have hcz33_1 : w32.cell? ⟨gb502, 1, none⟩ = some (.int .i64 a0_1) := (blk_cell BK502.out 1).trans rfl; have hcz33_2 : w32.cell? ⟨gb502, 2, none⟩ = some (.int .i64 a0_2) := (blk_cell BK502.out 2).trans rfl; have hcz33_3 : w32.cell? ⟨gb502, 3, none⟩ = some (.string a0_3) := (blk_cell BK502.out 3).trans rfl; have hcz33_4 : w32.cell? ⟨gb502, 4, none⟩ = some (.int .i64 a0_4) := (blk_cell BK502.out 4).trans rfl; have hcz33_5 : w32.cell? ⟨gb502, 5, none⟩ = some (.bool true) := (blk_cell BK502.out 5).trans rfl; have hcz33_6 : w32.cell? ⟨gb502, 6, none⟩ = some (.int .i64 a0_6) := (blk_cell BK502.out 6).trans rfl; have hfz33_0 := blk_frozen BK502.out 0; have hfz33_1 := blk_frozen BK502.out 1; have hfz33_2 := blk_frozen BK502.out 2; have hfz33_3 := blk_frozen BK502.out 3; have hfz33_4 := blk_frozen BK502.out 4; have hfz33_5 := blk_frozen BK502.out 5; have hfz33_6 := blk_frozen BK502.out 6) | (go_at_call 41; (with_reducible refine (spec_l1In.calls a1 40960 41023 false _ A21.out).mono ?_); rintro e w' ⟨rfl, ⟨nd, rfl⟩⟩))
     go_ret
     exact ⟨q76_, q65_⟩
   ·replace c20 := Bool.eq_false_iff.mpr c20
    subst c20
    replace H : (some 255) = some r := by rw [if_neg (show ¬ (false = true) by decide)] at H; exact H
    obtain rfl := Option.some.inj H
    go_enter Try.func67, Try.ntmps67
    go_wp2_with (first | ((with_reducible refine gate_dst (N := 2) rfl ?_); refine box_event ?hg (N := 2) ?hd (cs := #[.string a0_0, .int .i64 a0_1, .int .i64 a0_2, .string a0_3, .int .i64 a0_4, .bool false, .int .i64 a0_6]) (t := 32) ?hr ?_; (case hd => rfl); (case hg => rfl); (case hr => exact q138_); intro gb502 hg w34 hbox hb; have n0_ := Aside0.mk (below_step q75_ hb); have n1_ := Aside0.mk (hbox); have n2_ := Aside0.mk ((q52_ : w.heap.size ≤ gb502)); have n3_ := Aside0.mk ((q52_ : w.heap.size ≤ gb502)); clear HB; have HB := n0_; have BK502 := n1_; have GW502 := n2_; have GE502 := n3_; clear n0_ n1_ n2_ n3_; clear hb hbox hg) | ((with_reducible refine gate_callee (f := 41) rfl ?_); refine goesL_ (some 7) rfl rfl Try.func41 (by kernel_rfl) rfl #[.int .i64 a1, .int .i64 0, .int .i64 255] rfl q74_ ?_; (with_reducible refine (spec_l1In.calls a1 0 255 false _ A3.out).mono ?_); rintro e w' ⟨rfl, ⟨nd, rfl⟩⟩; refine ⟨_, rfl, ?_⟩) | ((with_reducible refine gate_callee (f := 41) rfl ?_); refine goesL_ (some 15) rfl rfl Try.func41 (by kernel_rfl) rfl #[.int .i64 a1, .int .i64 256, .int .i64 511] rfl q74_ ?_; (with_reducible refine (spec_l1In.calls a1 256 511 false _ A10.out).mono ?_); rintro e w' ⟨rfl, ⟨nd, rfl⟩⟩; refine ⟨_, rfl, ?_⟩; have hcz35_0 : w34.cell? ⟨gb502, 0, none⟩ = some (.string a0_0) := (blk_cell BK502.out 0).trans rfl; have hcz35_1 : w34.cell? ⟨gb502, 1, none⟩ = some (.int .i64 a0_1) := (blk_cell BK502.out 1).trans rfl; have hcz35_2 : w34.cell? ⟨gb502, 2, none⟩ = some (.int .i64 a0_2) := (blk_cell BK502.out 2).trans rfl; have hcz35_3 : w34.cell? ⟨gb502, 3, none⟩ = some (.string a0_3) := (blk_cell BK502.out 3).trans rfl; have hcz35_4 : w34.cell? ⟨gb502, 4, none⟩ = some (.int .i64 a0_4) := (blk_cell BK502.out 4).trans rfl; have hcz35_5 : w34.cell? ⟨gb502, 5, none⟩ = some (.bool false) := (blk_cell BK502.out 5).trans rfl; have hcz35_6 : w34.cell? ⟨gb502, 6, none⟩ = some (.int .i64 a0_6) := (blk_cell BK502.out 6).trans rfl; have hfz35_0 := blk_frozen BK502.out 0; have hfz35_1 := blk_frozen BK502.out 1; have hfz35_2 := blk_frozen BK502.out 2; have hfz35_3 := blk_frozen BK502.out 3; have hfz35_4 := blk_frozen BK502.out 4; have hfz35_5 := blk_frozen BK502.out 5; have hfz35_6 := blk_frozen BK502.out 6))
    go_ret
    exact ⟨q76_, q65_⟩
def spec_CartRead.f (k : Nat) (a0_0 : ByteArray) (a0_1 : Int) (a0_2 : Int) (a0_3 : ByteArray) (a0_4 : Int) (a0_5 : Bool) (a0_6 : Int) (a1 : Int) : Option (Int) := (spec_CartOk.f k a0_0 a0_1 a0_2 a0_3 a0_4 a0_5 a0_6).bind fun t509 => (if t509 = true then ((spec_l4Word.f a1).bind fun t510 => (if t510 = true then ((spec_l5Read.f a0_0 a0_1 a0_2 a0_3 a0_4 a0_5 a0_6 a1).bind fun t511 => (some t511)) else (some (-1)))) else (some (-1)))
theorem spec_CartRead.mono : ∀ a0 a1 a2 a3 a4 a5 a6 a7 k, LeO (spec_CartRead.f k a0 a1 a2 a3 a4 a5 a6 a7) (spec_CartRead.f (k + 1) a0 a1 a2 a3 a4 a5 a6 a7) := by
 intro a0 a1 a2 a3 a4 a5 a6 a7 k
 unfold spec_CartRead.f
 repeat' first
   | (with_reducible first | exact spec_CartOk.mono _ _ _ _ _ _ _ _ | exact LeO.refl _ | exact LeO.none _ | refine LeO.ite ?_ ?_ | refine LeO.bind ?_ (fun _ => ?_))
   | exact spec_CartOk.mono _ _ _ _ _ _ _ _
   | exact LeO.none _
   | refine LeO.ite ?_ ?_
   | refine LeO.bind ?_ (fun _ => ?_)
theorem spec_CartRead.calls (k : Nat) (a0_0 : ByteArray) (a0_1 : Int) (a0_2 : Int) (a0_3 : ByteArray) (a0_4 : Int) (a0_5 : Bool) (a0_6 : Int) (a1 : Int) (r : Int) (w : World) (h : spec_CartRead.f k a0_0 a0_1 a0_2 a0_3 a0_4 a0_5 a0_6 a1 = some r) :
  Calls Try.prog 23 #[.agg #[.string a0_0, .int .i64 a0_1, .int .i64 a0_2, .string a0_3, .int .i64 a0_4, .bool a0_5, .int .i64 a0_6], .int .i64 a1] w fun e w' => e = .returned (.int .i64 r) ∧ Below w.heap.size w w' := by
 have hu32 := Try.underlying32
 have HB := Aside0.mk (Below.refl w.heap.size w)
 have H : ((spec_CartOk.f k a0_0 a0_1 a0_2 a0_3 a0_4 a0_5 a0_6).bind fun t509 => (if t509 = true then ((spec_l4Word.f a1).bind fun t510 => (if t510 = true then ((spec_l5Read.f a0_0 a0_1 a0_2 a0_3 a0_4 a0_5 a0_6 a1).bind fun t511 => (some t511)) else (some (-1)))) else (some (-1)))) = some r := h
 clear h
 replace H := Option.bind_eq_some_iff.mp H
 obtain ⟨t509, A30, H⟩ := H
 have A3 := Aside0.mk A30
 clear A30
 by_cases c4 : t509 = true
 ·subst c4
  replace H : ((spec_l4Word.f a1).bind fun t510 => (if t510 = true then ((spec_l5Read.f a0_0 a0_1 a0_2 a0_3 a0_4 a0_5 a0_6 a1).bind fun t511 => (some t511)) else (some (-1)))) = some r := by rw [if_pos rfl] at H; exact H
  replace H := Option.bind_eq_some_iff.mp H
  obtain ⟨t510, A50, H⟩ := H
  have A5 := Aside0.mk A50
  clear A50
  by_cases c6 : t510 = true
  ·subst c6
   replace H : ((spec_l5Read.f a0_0 a0_1 a0_2 a0_3 a0_4 a0_5 a0_6 a1).bind fun t511 => (some t511)) = some r := by rw [if_pos rfl] at H; exact H
   replace H := Option.bind_eq_some_iff.mp H
   obtain ⟨t511, A70, H⟩ := H
   have A7 := Aside0.mk A70
   clear A70
   obtain rfl := Option.some.inj H
   go_enter Try.func23, Try.ntmps23
   go_wp2_with (first | ((with_reducible refine gate_dst (N := 2) rfl ?_); refine box_event ?hg (N := 2) ?hd (cs := #[.string a0_0, .int .i64 a0_1, .int .i64 a0_2, .string a0_3, .int .i64 a0_4, .bool a0_5, .int .i64 a0_6]) (t := 32) ?hr ?_; (case hd => rfl); (case hg => rfl); (case hr => exact q138_); intro gb508 hg w8 hbox hb; have n0_ := Aside0.mk (below_step q75_ hb); have n1_ := Aside0.mk (hbox); have n2_ := Aside0.mk ((q52_ : w.heap.size ≤ gb508)); have n3_ := Aside0.mk ((q52_ : w.heap.size ≤ gb508)); clear HB; have HB := n0_; have BK508 := n1_; have GW508 := n2_; have GE508 := n3_; clear n0_ n1_ n2_ n3_; clear hb hbox hg; have hcz9_0 : w8.cell? ⟨gb508, 0, none⟩ = some (.string a0_0) := (blk_cell BK508.out 0).trans rfl; have hcz9_1 : w8.cell? ⟨gb508, 1, none⟩ = some (.int .i64 a0_1) := (blk_cell BK508.out 1).trans rfl; have hcz9_2 : w8.cell? ⟨gb508, 2, none⟩ = some (.int .i64 a0_2) := (blk_cell BK508.out 2).trans rfl; have hcz9_3 : w8.cell? ⟨gb508, 3, none⟩ = some (.string a0_3) := (blk_cell BK508.out 3).trans rfl; have hcz9_4 : w8.cell? ⟨gb508, 4, none⟩ = some (.int .i64 a0_4) := (blk_cell BK508.out 4).trans rfl; have hcz9_5 : w8.cell? ⟨gb508, 5, none⟩ = some (.bool a0_5) := (blk_cell BK508.out 5).trans rfl; have hcz9_6 : w8.cell? ⟨gb508, 6, none⟩ = some (.int .i64 a0_6) := (blk_cell BK508.out 6).trans rfl; have hfz9_0 := blk_frozen BK508.out 0; have hfz9_1 := blk_frozen BK508.out 1; have hfz9_2 := blk_frozen BK508.out 2; have hfz9_3 := blk_frozen BK508.out 3; have hfz9_4 := blk_frozen BK508.out 4; have hfz9_5 := blk_frozen BK508.out 5; have hfz9_6 := blk_frozen BK508.out 6) | ((with_reducible refine gate_callee (f := 25) rfl ?_); refine goesL_ (some 6) rfl rfl Try.func25 (by kernel_rfl) rfl #[.agg #[.string a0_0, .int .i64 a0_1, .int .i64 a0_2, .string a0_3, .int .i64 a0_4, .bool a0_5, .int .i64 a0_6]] rfl q74_ ?_; (with_reducible refine (spec_CartOk.calls k a0_0 a0_1 a0_2 a0_3 a0_4 a0_5 a0_6 true _ A3.out).mono ?_); rintro e w10 ⟨rfl, hb⟩; refine ⟨_, rfl, ?_⟩; have n0_ := Aside0.mk (blk_below (g := gb508) (o := .cells #[.string a0_0, .int .i64 a0_1, .int .i64 a0_2, .string a0_3, .int .i64 a0_4, .bool a0_5, .int .i64 a0_6] 32 (0, 0)) q97_ hb); have n1_ := Aside0.mk (below_step q66_ hb); clear BK508; clear HB; have BK508 := n0_; have HB := n1_; clear n0_ n1_; (try clear hb)) | (go_at_call 62; (with_reducible refine (spec_l4Word.calls a1 true _ A5.out).mono ?_); rintro e w' ⟨rfl, ⟨nd, rfl⟩⟩; have hcz11_0 : w10.cell? ⟨gb508, 0, none⟩ = some (.string a0_0) := (blk_cell BK508.out 0).trans rfl; have hcz11_1 : w10.cell? ⟨gb508, 1, none⟩ = some (.int .i64 a0_1) := (blk_cell BK508.out 1).trans rfl; have hcz11_2 : w10.cell? ⟨gb508, 2, none⟩ = some (.int .i64 a0_2) := (blk_cell BK508.out 2).trans rfl; have hcz11_3 : w10.cell? ⟨gb508, 3, none⟩ = some (.string a0_3) := (blk_cell BK508.out 3).trans rfl; have hcz11_4 : w10.cell? ⟨gb508, 4, none⟩ = some (.int .i64 a0_4) := (blk_cell BK508.out 4).trans rfl; have hcz11_5 : w10.cell? ⟨gb508, 5, none⟩ = some (.bool a0_5) := (blk_cell BK508.out 5).trans rfl; have hcz11_6 : w10.cell? ⟨gb508, 6, none⟩ = some (.int .i64 a0_6) := (blk_cell BK508.out 6).trans rfl; have hfz11_0 := blk_frozen BK508.out 0; have hfz11_1 := blk_frozen BK508.out 1; have hfz11_2 := blk_frozen BK508.out 2; have hfz11_3 := blk_frozen BK508.out 3; have hfz11_4 := blk_frozen BK508.out 4; have hfz11_5 := blk_frozen BK508.out 5; have hfz11_6 := blk_frozen BK508.out 6) | ((with_reducible refine gate_callee (f := 67) rfl ?_); refine goesL_ (some 15) rfl rfl Try.func67 (by kernel_rfl) rfl #[.agg #[.string a0_0, .int .i64 a0_1, .int .i64 a0_2, .string a0_3, .int .i64 a0_4, .bool a0_5, .int .i64 a0_6], .int .i64 a1] rfl q74_ ?_; (with_reducible refine (spec_l5Read.calls a0_0 a0_1 a0_2 a0_3 a0_4 a0_5 a0_6 a1 t511 _ A7.out).mono ?_); rintro e w12 ⟨rfl, hb⟩; refine ⟨_, rfl, ?_⟩; have n0_ := Aside0.mk (blk_below (g := gb508) (o := .cells #[.string a0_0, .int .i64 a0_1, .int .i64 a0_2, .string a0_3, .int .i64 a0_4, .bool a0_5, .int .i64 a0_6] 32 (0, 0)) q97_ hb); have n1_ := Aside0.mk (below_step q66_ hb); clear BK508; clear HB; have BK508 := n0_; have HB := n1_; clear n0_ n1_; (try clear hb)))
   go_ret
   exact ⟨q76_, q66_⟩
  ·replace c6 := Bool.eq_false_iff.mpr c6
   subst c6
   replace H : (some (-1)) = some r := by rw [if_neg (show ¬ (false = true) by decide)] at H; exact H
   obtain rfl := Option.some.inj H
   go_enter Try.func23, Try.ntmps23
   go_wp2_with (first | ((with_reducible refine gate_dst (N := 2) rfl ?_); refine box_event ?hg (N := 2) ?hd (cs := #[.string a0_0, .int .i64 a0_1, .int .i64 a0_2, .string a0_3, .int .i64 a0_4, .bool a0_5, .int .i64 a0_6]) (t := 32) ?hr ?_; (case hd => rfl); (case hg => rfl); (case hr => exact q138_); intro gb508 hg w13 hbox hb; have n0_ := Aside0.mk (below_step q75_ hb); have n1_ := Aside0.mk (hbox); have n2_ := Aside0.mk ((q52_ : w.heap.size ≤ gb508)); have n3_ := Aside0.mk ((q52_ : w.heap.size ≤ gb508)); clear HB; have HB := n0_; have BK508 := n1_; have GW508 := n2_; have GE508 := n3_; clear n0_ n1_ n2_ n3_; clear hb hbox hg; have hcz14_0 : w13.cell? ⟨gb508, 0, none⟩ = some (.string a0_0) := (blk_cell BK508.out 0).trans rfl; have hcz14_1 : w13.cell? ⟨gb508, 1, none⟩ = some (.int .i64 a0_1) := (blk_cell BK508.out 1).trans rfl; have hcz14_2 : w13.cell? ⟨gb508, 2, none⟩ = some (.int .i64 a0_2) := (blk_cell BK508.out 2).trans rfl; have hcz14_3 : w13.cell? ⟨gb508, 3, none⟩ = some (.string a0_3) := (blk_cell BK508.out 3).trans rfl; have hcz14_4 : w13.cell? ⟨gb508, 4, none⟩ = some (.int .i64 a0_4) := (blk_cell BK508.out 4).trans rfl; have hcz14_5 : w13.cell? ⟨gb508, 5, none⟩ = some (.bool a0_5) := (blk_cell BK508.out 5).trans rfl; have hcz14_6 : w13.cell? ⟨gb508, 6, none⟩ = some (.int .i64 a0_6) := (blk_cell BK508.out 6).trans rfl; have hfz14_0 := blk_frozen BK508.out 0; have hfz14_1 := blk_frozen BK508.out 1; have hfz14_2 := blk_frozen BK508.out 2; have hfz14_3 := blk_frozen BK508.out 3; have hfz14_4 := blk_frozen BK508.out 4; have hfz14_5 := blk_frozen BK508.out 5; have hfz14_6 := blk_frozen BK508.out 6) | ((with_reducible refine gate_callee (f := 25) rfl ?_); refine goesL_ (some 6) rfl rfl Try.func25 (by kernel_rfl) rfl #[.agg #[.string a0_0, .int .i64 a0_1, .int .i64 a0_2, .string a0_3, .int .i64 a0_4, .bool a0_5, .int .i64 a0_6]] rfl q74_ ?_; (with_reducible refine (spec_CartOk.calls k a0_0 a0_1 a0_2 a0_3 a0_4 a0_5 a0_6 true _ A3.out).mono ?_); rintro e w15 ⟨rfl, hb⟩; refine ⟨_, rfl, ?_⟩; have n0_ := Aside0.mk (blk_below (g := gb508) (o := .cells #[.string a0_0, .int .i64 a0_1, .int .i64 a0_2, .string a0_3, .int .i64 a0_4, .bool a0_5, .int .i64 a0_6] 32 (0, 0)) q97_ hb); have n1_ := Aside0.mk (below_step q66_ hb); clear BK508; clear HB; have BK508 := n0_; have HB := n1_; clear n0_ n1_; (try clear hb)) | (go_at_call 62; (with_reducible refine (spec_l4Word.calls a1 false _ A5.out).mono ?_); rintro e w' ⟨rfl, ⟨nd, rfl⟩⟩))
   go_ret
   exact ⟨q76_, q66_⟩
 ·replace c4 := Bool.eq_false_iff.mpr c4
  subst c4
  replace H : (some (-1)) = some r := by rw [if_neg (show ¬ (false = true) by decide)] at H; exact H
  obtain rfl := Option.some.inj H
  go_enter Try.func23, Try.ntmps23
  go_wp2_with (first | ((with_reducible refine gate_dst (N := 2) rfl ?_); refine box_event ?hg (N := 2) ?hd (cs := #[.string a0_0, .int .i64 a0_1, .int .i64 a0_2, .string a0_3, .int .i64 a0_4, .bool a0_5, .int .i64 a0_6]) (t := 32) ?hr ?_; (case hd => rfl); (case hg => rfl); (case hr => exact q138_); intro gb508 hg w16 hbox hb; have n0_ := Aside0.mk (below_step q75_ hb); have n1_ := Aside0.mk (hbox); have n2_ := Aside0.mk ((q52_ : w.heap.size ≤ gb508)); have n3_ := Aside0.mk ((q52_ : w.heap.size ≤ gb508)); clear HB; have HB := n0_; have BK508 := n1_; have GW508 := n2_; have GE508 := n3_; clear n0_ n1_ n2_ n3_; clear hb hbox hg; have hcz17_0 : w16.cell? ⟨gb508, 0, none⟩ = some (.string a0_0) := (blk_cell BK508.out 0).trans rfl; have hcz17_1 : w16.cell? ⟨gb508, 1, none⟩ = some (.int .i64 a0_1) := (blk_cell BK508.out 1).trans rfl; have hcz17_2 : w16.cell? ⟨gb508, 2, none⟩ = some (.int .i64 a0_2) := (blk_cell BK508.out 2).trans rfl; have hcz17_3 : w16.cell? ⟨gb508, 3, none⟩ = some (.string a0_3) := (blk_cell BK508.out 3).trans rfl; have hcz17_4 : w16.cell? ⟨gb508, 4, none⟩ = some (.int .i64 a0_4) := (blk_cell BK508.out 4).trans rfl; have hcz17_5 : w16.cell? ⟨gb508, 5, none⟩ = some (.bool a0_5) := (blk_cell BK508.out 5).trans rfl; have hcz17_6 : w16.cell? ⟨gb508, 6, none⟩ = some (.int .i64 a0_6) := (blk_cell BK508.out 6).trans rfl; have hfz17_0 := blk_frozen BK508.out 0; have hfz17_1 := blk_frozen BK508.out 1; have hfz17_2 := blk_frozen BK508.out 2; have hfz17_3 := blk_frozen BK508.out 3; have hfz17_4 := blk_frozen BK508.out 4; have hfz17_5 := blk_frozen BK508.out 5; have hfz17_6 := blk_frozen BK508.out 6) | ((with_reducible refine gate_callee (f := 25) rfl ?_); refine goesL_ (some 6) rfl rfl Try.func25 (by kernel_rfl) rfl #[.agg #[.string a0_0, .int .i64 a0_1, .int .i64 a0_2, .string a0_3, .int .i64 a0_4, .bool a0_5, .int .i64 a0_6]] rfl q74_ ?_; (with_reducible refine (spec_CartOk.calls k a0_0 a0_1 a0_2 a0_3 a0_4 a0_5 a0_6 false _ A3.out).mono ?_); rintro e w18 ⟨rfl, hb⟩; refine ⟨_, rfl, ?_⟩; have n0_ := Aside0.mk (blk_below (g := gb508) (o := .cells #[.string a0_0, .int .i64 a0_1, .int .i64 a0_2, .string a0_3, .int .i64 a0_4, .bool a0_5, .int .i64 a0_6] 32 (0, 0)) q97_ hb); have n1_ := Aside0.mk (below_step q66_ hb); clear BK508; clear HB; have BK508 := n0_; have HB := n1_; clear n0_ n1_; (try clear hb)))
  go_ret
  exact ⟨q76_, q66_⟩
def spec_MappedBank.f (k : Nat) (a0_0 : ByteArray) (a0_1 : Int) (a0_2 : Int) (a0_3 : ByteArray) (a0_4 : Int) (a0_5 : Bool) (a0_6 : Int) : Option (Int) := (spec_CartOk.f k a0_0 a0_1 a0_2 a0_3 a0_4 a0_5 a0_6).bind fun t513 => (if t513 = true then ((spec_l5Banks.f a0_0).bind fun t514 => (if t514 = 0 then (none) else (some (Int.tmod a0_2 t514)))) else (some (-1)))
theorem spec_MappedBank.mono : ∀ a0 a1 a2 a3 a4 a5 a6 k, LeO (spec_MappedBank.f k a0 a1 a2 a3 a4 a5 a6) (spec_MappedBank.f (k + 1) a0 a1 a2 a3 a4 a5 a6) := by
 intro a0 a1 a2 a3 a4 a5 a6 k
 unfold spec_MappedBank.f
 repeat' first
   | (with_reducible first | exact spec_CartOk.mono _ _ _ _ _ _ _ _ | exact LeO.refl _ | exact LeO.none _ | refine LeO.ite ?_ ?_ | refine LeO.bind ?_ (fun _ => ?_))
   | exact spec_CartOk.mono _ _ _ _ _ _ _ _
   | exact LeO.none _
   | refine LeO.ite ?_ ?_
   | refine LeO.bind ?_ (fun _ => ?_)
theorem spec_MappedBank.calls (k : Nat) (a0_0 : ByteArray) (a0_1 : Int) (a0_2 : Int) (a0_3 : ByteArray) (a0_4 : Int) (a0_5 : Bool) (a0_6 : Int) (r : Int) (w : World) (h : spec_MappedBank.f k a0_0 a0_1 a0_2 a0_3 a0_4 a0_5 a0_6 = some r) :
  Calls Try.prog 26 #[.agg #[.string a0_0, .int .i64 a0_1, .int .i64 a0_2, .string a0_3, .int .i64 a0_4, .bool a0_5, .int .i64 a0_6]] w fun e w' => e = .returned (.int .i64 r) ∧ Below w.heap.size w w' := by
 have hu32 := Try.underlying32
 have HB := Aside0.mk (Below.refl w.heap.size w)
 have H : ((spec_CartOk.f k a0_0 a0_1 a0_2 a0_3 a0_4 a0_5 a0_6).bind fun t513 => (if t513 = true then ((spec_l5Banks.f a0_0).bind fun t514 => (if t514 = 0 then (none) else (some (Int.tmod a0_2 t514)))) else (some (-1)))) = some r := h
 clear h
 replace H := Option.bind_eq_some_iff.mp H
 obtain ⟨t513, A20, H⟩ := H
 have A2 := Aside0.mk A20
 clear A20
 by_cases c3 : t513 = true
 ·subst c3
  replace H : ((spec_l5Banks.f a0_0).bind fun t514 => (if t514 = 0 then (none) else (some (Int.tmod a0_2 t514)))) = some r := by rw [if_pos rfl] at H; exact H
  replace H := Option.bind_eq_some_iff.mp H
  obtain ⟨t514, A40, H⟩ := H
  have A4 := Aside0.mk A40
  clear A40
  by_cases c5 : t514 = 0
  ·rw [if_pos c5] at H
   exact absurd H (by simp)
  ·rw [if_neg c5] at H
   have c5b0 : (t514 == 0) = false := beq_eq_false_iff_ne.mpr c5
   have c5b1 : (t514 != 0) = true := bne_iff_ne.mpr c5
   obtain rfl := Option.some.inj H
   go_enter Try.func26, Try.ntmps26
   go_wp2_with (first | ((with_reducible refine gate_dst (N := 1) rfl ?_); refine box_event ?hg (N := 1) ?hd (cs := #[.string a0_0, .int .i64 a0_1, .int .i64 a0_2, .string a0_3, .int .i64 a0_4, .bool a0_5, .int .i64 a0_6]) (t := 32) ?hr ?_; (case hd => rfl); (case hg => rfl); (case hr => exact q138_); intro gb512 hg w6 hbox hb; have n0_ := Aside0.mk (below_step q75_ hb); have n1_ := Aside0.mk (hbox); have n2_ := Aside0.mk ((q52_ : w.heap.size ≤ gb512)); have n3_ := Aside0.mk ((q52_ : w.heap.size ≤ gb512)); clear HB; have HB := n0_; have BK512 := n1_; have GW512 := n2_; have GE512 := n3_; clear n0_ n1_ n2_ n3_; clear hb hbox hg; have hcz7_0 : w6.cell? ⟨gb512, 0, none⟩ = some (.string a0_0) := (blk_cell BK512.out 0).trans rfl; have hcz7_1 : w6.cell? ⟨gb512, 1, none⟩ = some (.int .i64 a0_1) := (blk_cell BK512.out 1).trans rfl; have hcz7_2 : w6.cell? ⟨gb512, 2, none⟩ = some (.int .i64 a0_2) := (blk_cell BK512.out 2).trans rfl; have hcz7_3 : w6.cell? ⟨gb512, 3, none⟩ = some (.string a0_3) := (blk_cell BK512.out 3).trans rfl; have hcz7_4 : w6.cell? ⟨gb512, 4, none⟩ = some (.int .i64 a0_4) := (blk_cell BK512.out 4).trans rfl; have hcz7_5 : w6.cell? ⟨gb512, 5, none⟩ = some (.bool a0_5) := (blk_cell BK512.out 5).trans rfl; have hcz7_6 : w6.cell? ⟨gb512, 6, none⟩ = some (.int .i64 a0_6) := (blk_cell BK512.out 6).trans rfl; have hfz7_0 := blk_frozen BK512.out 0; have hfz7_1 := blk_frozen BK512.out 1; have hfz7_2 := blk_frozen BK512.out 2; have hfz7_3 := blk_frozen BK512.out 3; have hfz7_4 := blk_frozen BK512.out 4; have hfz7_5 := blk_frozen BK512.out 5; have hfz7_6 := blk_frozen BK512.out 6) | (go_at_call 25; (with_reducible refine (spec_CartOk.calls k a0_0 a0_1 a0_2 a0_3 a0_4 a0_5 a0_6 true _ A2.out).mono ?_); rintro e w8 ⟨rfl, hb⟩; have n0_ := Aside0.mk (blk_below (g := gb512) (o := .cells #[.string a0_0, .int .i64 a0_1, .int .i64 a0_2, .string a0_3, .int .i64 a0_4, .bool a0_5, .int .i64 a0_6] 32 (0, 0)) q98_ hb); have n1_ := Aside0.mk (below_step q67_ hb); clear BK512; clear HB; have BK512 := n0_; have HB := n1_; clear n0_ n1_; (try clear hb); have hcz9_0 : w8.cell? ⟨gb512, 0, none⟩ = some (.string a0_0) := (blk_cell BK512.out 0).trans rfl; have hcz9_1 : w8.cell? ⟨gb512, 1, none⟩ = some (.int .i64 a0_1) := (blk_cell BK512.out 1).trans rfl; have hcz9_2 : w8.cell? ⟨gb512, 2, none⟩ = some (.int .i64 a0_2) := (blk_cell BK512.out 2).trans rfl; have hcz9_3 : w8.cell? ⟨gb512, 3, none⟩ = some (.string a0_3) := (blk_cell BK512.out 3).trans rfl; have hcz9_4 : w8.cell? ⟨gb512, 4, none⟩ = some (.int .i64 a0_4) := (blk_cell BK512.out 4).trans rfl; have hcz9_5 : w8.cell? ⟨gb512, 5, none⟩ = some (.bool a0_5) := (blk_cell BK512.out 5).trans rfl; have hcz9_6 : w8.cell? ⟨gb512, 6, none⟩ = some (.int .i64 a0_6) := (blk_cell BK512.out 6).trans rfl; have hfz9_0 := blk_frozen BK512.out 0; have hfz9_1 := blk_frozen BK512.out 1; have hfz9_2 := blk_frozen BK512.out 2; have hfz9_3 := blk_frozen BK512.out 3; have hfz9_4 := blk_frozen BK512.out 4; have hfz9_5 := blk_frozen BK512.out 5; have hfz9_6 := blk_frozen BK512.out 6) | (go_at_call 68; (with_reducible refine (spec_l5Banks.calls a0_0 t514 _ A4.out).mono ?_); rintro e w' ⟨rfl, ⟨nd, rfl⟩⟩; (try first | exact ⟨rfl, _, World.drewN_drewN _ _ _⟩ | exact ⟨rfl, _, Eq.trans (World.drewN_drewN _ _ _) (congrArg (World.drewN _) (Nat.add_assoc _ _ _))⟩)))
   repeat (go_quiet (first | ((with_reducible refine gate_dst (N := 1) rfl ?_); refine box_event ?hg (N := 1) ?hd (cs := #[.string a0_0, .int .i64 a0_1, .int .i64 a0_2, .string a0_3, .int .i64 a0_4, .bool a0_5, .int .i64 a0_6]) (t := 32) ?hr ?_; (case hd => rfl); (case hg => rfl); (case hr => exact q138_); intro gb512 hg w6 hbox hb; have n0_ := Aside0.mk (below_step q75_ hb); have n1_ := Aside0.mk (hbox); have n2_ := Aside0.mk ((q52_ : w.heap.size ≤ gb512)); have n3_ := Aside0.mk ((q52_ : w.heap.size ≤ gb512)); clear HB; have HB := n0_; have BK512 := n1_; have GW512 := n2_; have GE512 := n3_; clear n0_ n1_ n2_ n3_; clear hb hbox hg; have hcz7_0 : w6.cell? ⟨gb512, 0, none⟩ = some (.string a0_0) := (blk_cell BK512.out 0).trans rfl; have hcz7_1 : w6.cell? ⟨gb512, 1, none⟩ = some (.int .i64 a0_1) := (blk_cell BK512.out 1).trans rfl; have hcz7_2 : w6.cell? ⟨gb512, 2, none⟩ = some (.int .i64 a0_2) := (blk_cell BK512.out 2).trans rfl; have hcz7_3 : w6.cell? ⟨gb512, 3, none⟩ = some (.string a0_3) := (blk_cell BK512.out 3).trans rfl; have hcz7_4 : w6.cell? ⟨gb512, 4, none⟩ = some (.int .i64 a0_4) := (blk_cell BK512.out 4).trans rfl; have hcz7_5 : w6.cell? ⟨gb512, 5, none⟩ = some (.bool a0_5) := (blk_cell BK512.out 5).trans rfl; have hcz7_6 : w6.cell? ⟨gb512, 6, none⟩ = some (.int .i64 a0_6) := (blk_cell BK512.out 6).trans rfl; have hfz7_0 := blk_frozen BK512.out 0; have hfz7_1 := blk_frozen BK512.out 1; have hfz7_2 := blk_frozen BK512.out 2; have hfz7_3 := blk_frozen BK512.out 3; have hfz7_4 := blk_frozen BK512.out 4; have hfz7_5 := blk_frozen BK512.out 5; have hfz7_6 := blk_frozen BK512.out 6) | (go_at_call 25; (with_reducible refine (spec_CartOk.calls k a0_0 a0_1 a0_2 a0_3 a0_4 a0_5 a0_6 true _ A2.out).mono ?_); rintro e w8 ⟨rfl, hb⟩; have n0_ := Aside0.mk (blk_below (g := gb512) (o := .cells #[.string a0_0, .int .i64 a0_1, .int .i64 a0_2, .string a0_3, .int .i64 a0_4, .bool a0_5, .int .i64 a0_6] 32 (0, 0)) q98_ hb); have n1_ := Aside0.mk (below_step q67_ hb); clear BK512; clear HB; have BK512 := n0_; have HB := n1_; clear n0_ n1_; (try clear hb); have hcz9_0 : w8.cell? ⟨gb512, 0, none⟩ = some (.string a0_0) := (blk_cell BK512.out 0).trans rfl; have hcz9_1 : w8.cell? ⟨gb512, 1, none⟩ = some (.int .i64 a0_1) := (blk_cell BK512.out 1).trans rfl; have hcz9_2 : w8.cell? ⟨gb512, 2, none⟩ = some (.int .i64 a0_2) := (blk_cell BK512.out 2).trans rfl; have hcz9_3 : w8.cell? ⟨gb512, 3, none⟩ = some (.string a0_3) := (blk_cell BK512.out 3).trans rfl; have hcz9_4 : w8.cell? ⟨gb512, 4, none⟩ = some (.int .i64 a0_4) := (blk_cell BK512.out 4).trans rfl; have hcz9_5 : w8.cell? ⟨gb512, 5, none⟩ = some (.bool a0_5) := (blk_cell BK512.out 5).trans rfl; have hcz9_6 : w8.cell? ⟨gb512, 6, none⟩ = some (.int .i64 a0_6) := (blk_cell BK512.out 6).trans rfl; have hfz9_0 := blk_frozen BK512.out 0; have hfz9_1 := blk_frozen BK512.out 1; have hfz9_2 := blk_frozen BK512.out 2; have hfz9_3 := blk_frozen BK512.out 3; have hfz9_4 := blk_frozen BK512.out 4; have hfz9_5 := blk_frozen BK512.out 5; have hfz9_6 := blk_frozen BK512.out 6) | (go_at_call 68; (with_reducible refine (spec_l5Banks.calls a0_0 t514 _ A4.out).mono ?_); rintro e w' ⟨rfl, ⟨nd, rfl⟩⟩; (try first | exact ⟨rfl, _, World.drewN_drewN _ _ _⟩ | exact ⟨rfl, _, Eq.trans (World.drewN_drewN _ _ _) (congrArg (World.drewN _) (Nat.add_assoc _ _ _))⟩))); try go_wp2_with (first | ((with_reducible refine gate_dst (N := 1) rfl ?_); refine box_event ?hg (N := 1) ?hd (cs := #[.string a0_0, .int .i64 a0_1, .int .i64 a0_2, .string a0_3, .int .i64 a0_4, .bool a0_5, .int .i64 a0_6]) (t := 32) ?hr ?_; (case hd => rfl); (case hg => rfl); (case hr => exact q138_); intro gb512 hg w6 hbox hb; have n0_ := Aside0.mk (below_step q75_ hb); have n1_ := Aside0.mk (hbox); have n2_ := Aside0.mk ((q52_ : w.heap.size ≤ gb512)); have n3_ := Aside0.mk ((q52_ : w.heap.size ≤ gb512)); clear HB; have HB := n0_; have BK512 := n1_; have GW512 := n2_; have GE512 := n3_; clear n0_ n1_ n2_ n3_; clear hb hbox hg; have hcz7_0 : w6.cell? ⟨gb512, 0, none⟩ = some (.string a0_0) := (blk_cell BK512.out 0).trans rfl; have hcz7_1 : w6.cell? ⟨gb512, 1, none⟩ = some (.int .i64 a0_1) := (blk_cell BK512.out 1).trans rfl; have hcz7_2 : w6.cell? ⟨gb512, 2, none⟩ = some (.int .i64 a0_2) := (blk_cell BK512.out 2).trans rfl; have hcz7_3 : w6.cell? ⟨gb512, 3, none⟩ = some (.string a0_3) := (blk_cell BK512.out 3).trans rfl; have hcz7_4 : w6.cell? ⟨gb512, 4, none⟩ = some (.int .i64 a0_4) := (blk_cell BK512.out 4).trans rfl; have hcz7_5 : w6.cell? ⟨gb512, 5, none⟩ = some (.bool a0_5) := (blk_cell BK512.out 5).trans rfl; have hcz7_6 : w6.cell? ⟨gb512, 6, none⟩ = some (.int .i64 a0_6) := (blk_cell BK512.out 6).trans rfl; have hfz7_0 := blk_frozen BK512.out 0; have hfz7_1 := blk_frozen BK512.out 1; have hfz7_2 := blk_frozen BK512.out 2; have hfz7_3 := blk_frozen BK512.out 3; have hfz7_4 := blk_frozen BK512.out 4; have hfz7_5 := blk_frozen BK512.out 5; have hfz7_6 := blk_frozen BK512.out 6) | (go_at_call 25; (with_reducible refine (spec_CartOk.calls k a0_0 a0_1 a0_2 a0_3 a0_4 a0_5 a0_6 true _ A2.out).mono ?_); rintro e w8 ⟨rfl, hb⟩; have n0_ := Aside0.mk (blk_below (g := gb512) (o := .cells #[.string a0_0, .int .i64 a0_1, .int .i64 a0_2, .string a0_3, .int .i64 a0_4, .bool a0_5, .int .i64 a0_6] 32 (0, 0)) q98_ hb); have n1_ := Aside0.mk (below_step q67_ hb); clear BK512; clear HB; have BK512 := n0_; have HB := n1_; clear n0_ n1_; (try clear hb); have hcz9_0 : w8.cell? ⟨gb512, 0, none⟩ = some (.string a0_0) := (blk_cell BK512.out 0).trans rfl; have hcz9_1 : w8.cell? ⟨gb512, 1, none⟩ = some (.int .i64 a0_1) := (blk_cell BK512.out 1).trans rfl; have hcz9_2 : w8.cell? ⟨gb512, 2, none⟩ = some (.int .i64 a0_2) := (blk_cell BK512.out 2).trans rfl; have hcz9_3 : w8.cell? ⟨gb512, 3, none⟩ = some (.string a0_3) := (blk_cell BK512.out 3).trans rfl; have hcz9_4 : w8.cell? ⟨gb512, 4, none⟩ = some (.int .i64 a0_4) := (blk_cell BK512.out 4).trans rfl; have hcz9_5 : w8.cell? ⟨gb512, 5, none⟩ = some (.bool a0_5) := (blk_cell BK512.out 5).trans rfl; have hcz9_6 : w8.cell? ⟨gb512, 6, none⟩ = some (.int .i64 a0_6) := (blk_cell BK512.out 6).trans rfl; have hfz9_0 := blk_frozen BK512.out 0; have hfz9_1 := blk_frozen BK512.out 1; have hfz9_2 := blk_frozen BK512.out 2; have hfz9_3 := blk_frozen BK512.out 3; have hfz9_4 := blk_frozen BK512.out 4; have hfz9_5 := blk_frozen BK512.out 5; have hfz9_6 := blk_frozen BK512.out 6) | (go_at_call 68; (with_reducible refine (spec_l5Banks.calls a0_0 t514 _ A4.out).mono ?_); rintro e w' ⟨rfl, ⟨nd, rfl⟩⟩; (try first | exact ⟨rfl, _, World.drewN_drewN _ _ _⟩ | exact ⟨rfl, _, Eq.trans (World.drewN_drewN _ _ _) (congrArg (World.drewN _) (Nat.add_assoc _ _ _))⟩))))
   go_ret
   exact ⟨q76_, q67_⟩
 ·replace c3 := Bool.eq_false_iff.mpr c3
  subst c3
  replace H : (some (-1)) = some r := by rw [if_neg (show ¬ (false = true) by decide)] at H; exact H
  obtain rfl := Option.some.inj H
  go_enter Try.func26, Try.ntmps26
  go_wp2_with (first | ((with_reducible refine gate_dst (N := 1) rfl ?_); refine box_event ?hg (N := 1) ?hd (cs := #[.string a0_0, .int .i64 a0_1, .int .i64 a0_2, .string a0_3, .int .i64 a0_4, .bool a0_5, .int .i64 a0_6]) (t := 32) ?hr ?_; (case hd => rfl); (case hg => rfl); (case hr => exact q138_); intro gb512 hg w10 hbox hb; have n0_ := Aside0.mk (below_step q75_ hb); have n1_ := Aside0.mk (hbox); have n2_ := Aside0.mk ((q52_ : w.heap.size ≤ gb512)); have n3_ := Aside0.mk ((q52_ : w.heap.size ≤ gb512)); clear HB; have HB := n0_; have BK512 := n1_; have GW512 := n2_; have GE512 := n3_; clear n0_ n1_ n2_ n3_; clear hb hbox hg; have hcz11_0 : w10.cell? ⟨gb512, 0, none⟩ = some (.string a0_0) := (blk_cell BK512.out 0).trans rfl; have hcz11_1 : w10.cell? ⟨gb512, 1, none⟩ = some (.int .i64 a0_1) := (blk_cell BK512.out 1).trans rfl; have hcz11_2 : w10.cell? ⟨gb512, 2, none⟩ = some (.int .i64 a0_2) := (blk_cell BK512.out 2).trans rfl; have hcz11_3 : w10.cell? ⟨gb512, 3, none⟩ = some (.string a0_3) := (blk_cell BK512.out 3).trans rfl; have hcz11_4 : w10.cell? ⟨gb512, 4, none⟩ = some (.int .i64 a0_4) := (blk_cell BK512.out 4).trans rfl; have hcz11_5 : w10.cell? ⟨gb512, 5, none⟩ = some (.bool a0_5) := (blk_cell BK512.out 5).trans rfl; have hcz11_6 : w10.cell? ⟨gb512, 6, none⟩ = some (.int .i64 a0_6) := (blk_cell BK512.out 6).trans rfl; have hfz11_0 := blk_frozen BK512.out 0; have hfz11_1 := blk_frozen BK512.out 1; have hfz11_2 := blk_frozen BK512.out 2; have hfz11_3 := blk_frozen BK512.out 3; have hfz11_4 := blk_frozen BK512.out 4; have hfz11_5 := blk_frozen BK512.out 5; have hfz11_6 := blk_frozen BK512.out 6) | (go_at_call 25; (with_reducible refine (spec_CartOk.calls k a0_0 a0_1 a0_2 a0_3 a0_4 a0_5 a0_6 false _ A2.out).mono ?_); rintro e w12 ⟨rfl, hb⟩; have n0_ := Aside0.mk (blk_below (g := gb512) (o := .cells #[.string a0_0, .int .i64 a0_1, .int .i64 a0_2, .string a0_3, .int .i64 a0_4, .bool a0_5, .int .i64 a0_6] 32 (0, 0)) q98_ hb); have n1_ := Aside0.mk (below_step q67_ hb); clear BK512; clear HB; have BK512 := n0_; have HB := n1_; clear n0_ n1_; (try clear hb)))
  repeat (go_quiet (first | ((with_reducible refine gate_dst (N := 1) rfl ?_); refine box_event ?hg (N := 1) ?hd (cs := #[.string a0_0, .int .i64 a0_1, .int .i64 a0_2, .string a0_3, .int .i64 a0_4, .bool a0_5, .int .i64 a0_6]) (t := 32) ?hr ?_; (case hd => rfl); (case hg => rfl); (case hr => exact q138_); intro gb512 hg w10 hbox hb; have n0_ := Aside0.mk (below_step q75_ hb); have n1_ := Aside0.mk (hbox); have n2_ := Aside0.mk ((q52_ : w.heap.size ≤ gb512)); have n3_ := Aside0.mk ((q52_ : w.heap.size ≤ gb512)); clear HB; have HB := n0_; have BK512 := n1_; have GW512 := n2_; have GE512 := n3_; clear n0_ n1_ n2_ n3_; clear hb hbox hg; have hcz11_0 : w10.cell? ⟨gb512, 0, none⟩ = some (.string a0_0) := (blk_cell BK512.out 0).trans rfl; have hcz11_1 : w10.cell? ⟨gb512, 1, none⟩ = some (.int .i64 a0_1) := (blk_cell BK512.out 1).trans rfl; have hcz11_2 : w10.cell? ⟨gb512, 2, none⟩ = some (.int .i64 a0_2) := (blk_cell BK512.out 2).trans rfl; have hcz11_3 : w10.cell? ⟨gb512, 3, none⟩ = some (.string a0_3) := (blk_cell BK512.out 3).trans rfl; have hcz11_4 : w10.cell? ⟨gb512, 4, none⟩ = some (.int .i64 a0_4) := (blk_cell BK512.out 4).trans rfl; have hcz11_5 : w10.cell? ⟨gb512, 5, none⟩ = some (.bool a0_5) := (blk_cell BK512.out 5).trans rfl; have hcz11_6 : w10.cell? ⟨gb512, 6, none⟩ = some (.int .i64 a0_6) := (blk_cell BK512.out 6).trans rfl; have hfz11_0 := blk_frozen BK512.out 0; have hfz11_1 := blk_frozen BK512.out 1; have hfz11_2 := blk_frozen BK512.out 2; have hfz11_3 := blk_frozen BK512.out 3; have hfz11_4 := blk_frozen BK512.out 4; have hfz11_5 := blk_frozen BK512.out 5; have hfz11_6 := blk_frozen BK512.out 6) | (go_at_call 25; (with_reducible refine (spec_CartOk.calls k a0_0 a0_1 a0_2 a0_3 a0_4 a0_5 a0_6 false _ A2.out).mono ?_); rintro e w12 ⟨rfl, hb⟩; have n0_ := Aside0.mk (blk_below (g := gb512) (o := .cells #[.string a0_0, .int .i64 a0_1, .int .i64 a0_2, .string a0_3, .int .i64 a0_4, .bool a0_5, .int .i64 a0_6] 32 (0, 0)) q98_ hb); have n1_ := Aside0.mk (below_step q67_ hb); clear BK512; clear HB; have BK512 := n0_; have HB := n1_; clear n0_ n1_; (try clear hb))); try go_wp2_with (first | ((with_reducible refine gate_dst (N := 1) rfl ?_); refine box_event ?hg (N := 1) ?hd (cs := #[.string a0_0, .int .i64 a0_1, .int .i64 a0_2, .string a0_3, .int .i64 a0_4, .bool a0_5, .int .i64 a0_6]) (t := 32) ?hr ?_; (case hd => rfl); (case hg => rfl); (case hr => exact q138_); intro gb512 hg w10 hbox hb; have n0_ := Aside0.mk (below_step q75_ hb); have n1_ := Aside0.mk (hbox); have n2_ := Aside0.mk ((q52_ : w.heap.size ≤ gb512)); have n3_ := Aside0.mk ((q52_ : w.heap.size ≤ gb512)); clear HB; have HB := n0_; have BK512 := n1_; have GW512 := n2_; have GE512 := n3_; clear n0_ n1_ n2_ n3_; clear hb hbox hg; have hcz11_0 : w10.cell? ⟨gb512, 0, none⟩ = some (.string a0_0) := (blk_cell BK512.out 0).trans rfl; have hcz11_1 : w10.cell? ⟨gb512, 1, none⟩ = some (.int .i64 a0_1) := (blk_cell BK512.out 1).trans rfl; have hcz11_2 : w10.cell? ⟨gb512, 2, none⟩ = some (.int .i64 a0_2) := (blk_cell BK512.out 2).trans rfl; have hcz11_3 : w10.cell? ⟨gb512, 3, none⟩ = some (.string a0_3) := (blk_cell BK512.out 3).trans rfl; have hcz11_4 : w10.cell? ⟨gb512, 4, none⟩ = some (.int .i64 a0_4) := (blk_cell BK512.out 4).trans rfl; have hcz11_5 : w10.cell? ⟨gb512, 5, none⟩ = some (.bool a0_5) := (blk_cell BK512.out 5).trans rfl; have hcz11_6 : w10.cell? ⟨gb512, 6, none⟩ = some (.int .i64 a0_6) := (blk_cell BK512.out 6).trans rfl; have hfz11_0 := blk_frozen BK512.out 0; have hfz11_1 := blk_frozen BK512.out 1; have hfz11_2 := blk_frozen BK512.out 2; have hfz11_3 := blk_frozen BK512.out 3; have hfz11_4 := blk_frozen BK512.out 4; have hfz11_5 := blk_frozen BK512.out 5; have hfz11_6 := blk_frozen BK512.out 6) | (go_at_call 25; (with_reducible refine (spec_CartOk.calls k a0_0 a0_1 a0_2 a0_3 a0_4 a0_5 a0_6 false _ A2.out).mono ?_); rintro e w12 ⟨rfl, hb⟩; have n0_ := Aside0.mk (blk_below (g := gb512) (o := .cells #[.string a0_0, .int .i64 a0_1, .int .i64 a0_2, .string a0_3, .int .i64 a0_4, .bool a0_5, .int .i64 a0_6] 32 (0, 0)) q98_ hb); have n1_ := Aside0.mk (below_step q67_ hb); clear BK512; clear HB; have BK512 := n0_; have HB := n1_; clear n0_ n1_; (try clear hb))))
  go_ret
  exact ⟨q76_, q67_⟩
end Go.Proofs.Ytcohcndliaaacaa.QFnCartReads
