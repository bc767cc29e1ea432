/- The machine's side of a law, written by a program of this session for this claim. -/
import Derived.Test.YtodlnnoekccmmaaGreatDoorYQq
import Derived.Test.YtodlnnoekccmmaaGreatDoorYQFnLengthsx0
import Derived.Test.YtodlnnoekccmmaaGreatDoorYQFnLengthsx1
import Derived.Test.YtodlnnoekccmmaaGreatDoorYQFnLengthsx7
import Derived.Test.YtodlnnoekccmmaaGreatDoorYQFnLengthsx8
import Derived.Test.YtodlnnoekccmmaaGreatDoorYQFnLengthsx13
import Derived.Test.YtodlnnoekccmmaaGreatDoorYQFnLengthsx14
namespace Go.Proofs.YtodlnnoekccmmaaGreatDoor.QFnLengths
open Go.Proofs.YtodlnnoekccmmaaGreatDoor.Qq
open Go.RowKit Go.Proofs.YtodlnnoekccmmaaGreatDoor.LibX Go.Proofs.YtodlnnoekccmmaaGreatDoor.LibE Go.Proofs.YtodlnnoekccmmaaGreatDoorW.PrintWords Go.Proofs.YtodlnnoekccmmaaGreatDoorW.PrintLast Go.Proofs.YtodlnnoekccmmaaGreatDoorW.PrintMore
attribute [local go_sem] max2_int min2_int max_two min_two max_three min_three max_four min_four   -- for this text's walks alone
set_option maxHeartbeats 8000000
set_option maxRecDepth 100000
set_option linter.unusedVariables false
set_option linter.unusedSimpArgs false
def impl_InsBytes.f (k : Nat) (a0_0 : Int) (a0_1 : Bool) (a0_2 : Int) : Option (ByteArray) := (impl_InsOk.f k a0_0 a0_1 a0_2).bind fun t494 => (if t494 = true then (if a0_1 = true then ((impl_bytesOf.f k 203 1).bind fun t495 => ((impl_bytesOf.f k a0_0 1).bind fun t496 => (if t495.size + t496.size ≤ 9223372036854775807 then (some (t495 ++ t496)) else (none)))) else ((impl_bytesOf.f k a0_0 1).bind fun t497 => ((impl_LengthOf.f k a0_0 false).bind fun t498 => ((impl_bytesOf.f k a0_2 (wrap64 (t498 - 1))).bind fun t499 => (if t497.size + t499.size ≤ 9223372036854775807 then (some (t497 ++ t499)) else (none)))))) else (some (⟨#[]⟩ : ByteArray)))
theorem impl_InsBytes.mono : ∀ a0 a1 a2 k, LeO (impl_InsBytes.f k a0 a1 a2) (impl_InsBytes.f (k + 1) a0 a1 a2) := by
 intro a0 a1 a2 k
 unfold impl_InsBytes.f
 repeat' first
   | (with_reducible first | exact impl_InsOk.mono _ _ _ _ | exact impl_LengthOf.mono _ _ _ | exact impl_bytesOf.mono _ _ _ | exact LeO.refl _ | exact LeO.none _ | refine LeO.ite ?_ ?_ | refine LeO.bind ?_ (fun _ => ?_))
   | exact impl_InsOk.mono _ _ _ _
   | exact impl_LengthOf.mono _ _ _
   | exact impl_bytesOf.mono _ _ _
   | exact LeO.none _
   | refine LeO.ite ?_ ?_
   | refine LeO.bind ?_ (fun _ => ?_)
def impl_InsBytes.T5 : Bool × List (List Nat × List Nat) := (true, [([], []), ([0], [0]), ([1], [1]), ([], []), ([3], [3]), ([], []), ([5], [5]), ([6, 2], [6]), ([7], [7]), ([4, 8, 7], [4, 8]), ([2, 9], [2, 9]), ([10, 9, 0, 1, 2, 3, 4, 5, 6, 7, 8, 9, 10], [10])])
def impl_InsBytes.B5 : List Nat := [0, 1, 3, 0, 8, 0, 32, 103, 231, 511, 1023, 2047]
theorem impl_InsBytes.tab5 : rtab .any (opsOf Tryz.f17 5) = impl_InsBytes.T5 := by kernel_rfl
theorem impl_InsBytes.bits5 : waitsOk impl_InsBytes.T5.2 impl_InsBytes.B5 = true := by kernel_rfl
theorem impl_InsBytes.calls (k : Nat) (a0_0 : Int) (a0_1 : Bool) (a0_2 : Int) (r : ByteArray) (w : World) (h : impl_InsBytes.f k a0_0 a0_1 a0_2 = some r) (hG : Go.Proofs.YtodlnnoekccmmaaGreatDoor.LibW.GL w := by first | exact hG | exact hG.below q1_ | exact hG.drewN _) :
  Calls Tryz.prog 17 #[.agg #[.int .i64 a0_0, .bool a0_1, .int .i64 a0_2]] w fun e w' => e = .returned (.string r) ∧ Below w.heap.size w w' := by
 have hu30 := Tryz.underlying30
 have HB := Aside0.mk (Below.refl w.heap.size w)
 have H : ((impl_InsOk.f k a0_0 a0_1 a0_2).bind fun t494 => (if t494 = true then (if a0_1 = true then ((impl_bytesOf.f k 203 1).bind fun t495 => ((impl_bytesOf.f k a0_0 1).bind fun t496 => (if t495.size + t496.size ≤ 9223372036854775807 then (some (t495 ++ t496)) else (none)))) else ((impl_bytesOf.f k a0_0 1).bind fun t497 => ((impl_LengthOf.f k a0_0 false).bind fun t498 => ((impl_bytesOf.f k a0_2 (wrap64 (t498 - 1))).bind fun t499 => (if t497.size + t499.size ≤ 9223372036854775807 then (some (t497 ++ t499)) else (none)))))) else (some (⟨#[]⟩ : ByteArray)))) = some r := h
 clear h
 replace H := Option.bind_eq_some_iff.mp H
 obtain ⟨t494, A20, H⟩ := H
 have A2 := Aside0.mk A20
 clear A20
 by_cases c3 : t494 = true
 ·subst c3
  replace H : (if a0_1 = true then ((impl_bytesOf.f k 203 1).bind fun t495 => ((impl_bytesOf.f k a0_0 1).bind fun t496 => (if t495.size + t496.size ≤ 9223372036854775807 then (some (t495 ++ t496)) else (none)))) else ((impl_bytesOf.f k a0_0 1).bind fun t497 => ((impl_LengthOf.f k a0_0 false).bind fun t498 => ((impl_bytesOf.f k a0_2 (wrap64 (t498 - 1))).bind fun t499 => (if t497.size + t499.size ≤ 9223372036854775807 then (some (t497 ++ t499)) else (none)))))) = some r := by rw [if_pos rfl] at H; exact H
  by_cases c4 : a0_1 = true
  ·subst c4
   replace H : ((impl_bytesOf.f k 203 1).bind fun t495 => ((impl_bytesOf.f k a0_0 1).bind fun t496 => (if t495.size + t496.size ≤ 9223372036854775807 then (some (t495 ++ t496)) else (none)))) = some r := by rw [if_pos rfl] at H; exact H
   replace H := Option.bind_eq_some_iff.mp H
   obtain ⟨t495, A50, H⟩ := H
   have A5 := Aside0.mk A50
   clear A50
   replace H := Option.bind_eq_some_iff.mp H
   obtain ⟨t496, A60, H⟩ := H
   have A6 := Aside0.mk A60
   clear A60
   by_cases c7 : t495.size + t496.size ≤ 9223372036854775807
   ·rw [if_pos c7] at H
    have c7b0 := eq_true c7
    have c7b1 : decide (t495.size + t496.size ≤ 9223372036854775807) = true := decide_eq_true c7
    try have c7b2 : (9223372036854775807 < t495.size + t496.size) = False := eq_false (Nat.not_lt.2 c7)
    obtain rfl := Option.some.inj H
    go_enter Tryz.func17, Tryz.ntmps17
    try go_wp2_with (first | ((with_reducible refine gate_dst (N := 1) rfl ?_); refine box_event ?hg (N := 1) ?hd (cs := #[.int .i64 a0_0, .bool true, .int .i64 a0_2]) (t := 30) ?hr ?_; (case hd => rfl); (case hg => rfl); (case hr => exact q73_); intro gb493 hg w8 hbox hb; have n0_ := Aside0.mk (below_step q23_ hb); have n1_ := Aside0.mk (hbox); have n2_ := Aside0.mk ((q15_ : w.heap.size ≤ gb493)); have n3_ := Aside0.mk ((q15_ : w.heap.size ≤ gb493)); clear HB; have HB := n0_; have BK493 := n1_; have GW493 := n2_; have GE493 := n3_; clear n0_ n1_ n2_ n3_; clear hb hbox hg; have hcz9_0 : w8.cell? ⟨gb493, 0, none⟩ = some (.int .i64 a0_0) := (blk_cell BK493.out 0).trans rfl; have hcz9_1 : w8.cell? ⟨gb493, 1, none⟩ = some (.bool true) := (blk_cell BK493.out 1).trans rfl; have hcz9_2 : w8.cell? ⟨gb493, 2, none⟩ = some (.int .i64 a0_2) := (blk_cell BK493.out 2).trans rfl; have hfz9_0 := blk_frozen BK493.out 0; have hfz9_1 := blk_frozen BK493.out 1; have hfz9_2 := blk_frozen BK493.out 2) | ((with_reducible refine gate_callee (f := 20) rfl ?_); refine goesL_ (some 5) rfl rfl Tryz.func20 (by kernel_rfl) rfl #[.agg #[.int .i64 a0_0, .bool true, .int .i64 a0_2]] rfl q22_ ?_; (with_reducible refine (impl_InsOk.calls k a0_0 true a0_2 true _ A2.out).mono ?_); rintro e w10 ⟨rfl, hb⟩; refine ⟨_, rfl, ?_⟩; have n0_ := Aside0.mk (blk_below (g := gb493) (o := .cells #[.int .i64 a0_0, .bool true, .int .i64 a0_2] 30 (0, 0)) q27_ hb); have n1_ := Aside0.mk (below_step q17_ hb); clear BK493; clear HB; have BK493 := n0_; have HB := n1_; clear n0_ n1_; (try clear hb); have hcz11_0 : w10.cell? ⟨gb493, 0, none⟩ = some (.int .i64 a0_0) := (blk_cell BK493.out 0).trans rfl; have hcz11_1 : w10.cell? ⟨gb493, 1, none⟩ = some (.bool true) := (blk_cell BK493.out 1).trans rfl; have hcz11_2 : w10.cell? ⟨gb493, 2, none⟩ = some (.int .i64 a0_2) := (blk_cell BK493.out 2).trans rfl; have hfz11_0 := blk_frozen BK493.out 0; have hfz11_1 := blk_frozen BK493.out 1; have hfz11_2 := blk_frozen BK493.out 2))
    have n0_ := Aside0.mk (blk_drew BK493.out)
    have n1_ := Aside0.mk (below_drew1 HB.out)
    clear BK493
    clear HB
    have BK493 := n0_
    have HB := n1_
    clear n0_ n1_
    refine start_ (n := 6) (S := fun w' => w'.cell? ⟨gb493, 0, none⟩ = some (.int .i64 a0_0) ∧ w'.cell? ⟨gb493, 1, none⟩ = some (.bool true) ∧ w'.cell? ⟨gb493, 2, none⟩ = some (.int .i64 a0_2)) (ds := []) #[false, false, false, false, false, false] (by kernel_rfl) rfl rfl ⟨(blk_cell BK493.out 0).trans rfl, (blk_cell BK493.out 1).trans rfl, (blk_cell BK493.out 2).trans rfl⟩ (fun hHeld => ?_)
    generalize w10.drew = w12 at BK493 HB hHeld ⊢
    refine pure_ (i := 1) (N := some 11) (v := ?_) (a' := ?_) #[false, true, false, false, false, false] rfl rfl (by kernel_rfl) (fun _ _ _ h => h) (Or.inl ⟨by rfl, ?_⟩) ?_ ?_
    rotate_left
    ·intro w'
     go_simp
     with_reducible rfl
    rotate_left
    ·simp only [Act.put, List.setIfInBounds_toArray, List.set_cons_zero, List.set_cons_succ, i64_w, i32_w]
     rfl
    refine take_ (i := 2) (N := some 12) (v := ?_) (a' := ?_) #[false, true, true, false, false, false] rfl rfl (by kernel_rfl) (fun _ _ _ h => h) (Or.inl ⟨by rfl, ?_⟩) hHeld ?_ ?_
    rotate_left
    ·rintro w' ⟨s0, s1, s2⟩
     go_simp
     with_reducible rfl
    rotate_left
    ·simp only [Act.put, List.setIfInBounds_toArray, List.set_cons_zero, List.set_cons_succ, i64_w, i32_w]
     rfl
    refine one_ (i := 0) (N := some 10) #[true, true, true, false, false, false] rfl rfl (by kernel_rfl) (by decide) (fun K hK => ?_)
    refine goes_ Tryz.func55 (by kernel_rfl) rfl #[.int .i64 203, .int .i64 1] (by rfl) rfl rfl q22_ ?_
    with_reducible refine (impl_bytesOf.calls k 203 1 t495 _ A5.out).mono ?_
    rintro e w13 ⟨rfl, hb⟩
    refine ⟨_, rfl, ?_⟩
    have n0_ := Aside0.mk (blk_below (g := gb493) (o := .cells #[.int .i64 a0_0, .bool true, .int .i64 a0_2] 30 (0, 0)) q27_ hb)
    have n1_ := Aside0.mk (below_step q17_ hb)
    clear BK493
    clear HB
    have BK493 := n0_
    have HB := n1_
    clear n0_ n1_
    (try clear hb)
    (try clear hb2)
    (try clear hk)
    (try clear hi)
    refine hK.out _ _ ⟨(blk_cell BK493.out 0).trans rfl, (blk_cell BK493.out 1).trans rfl, (blk_cell BK493.out 2).trans rfl⟩ (fun hHeld => ?_)
    clear hK K
    refine norm_ (a' := ?_) ?_ ?_
    rotate_left
    ·show Act.put _ (some 10) _ = _
     simp only [Act.put, List.setIfInBounds_toArray, List.set_cons_zero, List.set_cons_succ, i64_w, i32_w]
     rfl
    refine one_ (i := 3) (N := some 13) #[true, true, true, true, false, false] rfl rfl (by kernel_rfl) (by decide) (fun K hK => ?_)
    refine goes_ Tryz.func55 (by kernel_rfl) rfl #[.int .i64 a0_0, .int .i64 1] (by rfl) rfl rfl q22_ ?_
    with_reducible refine (impl_bytesOf.calls k a0_0 1 t496 _ A6.out).mono ?_
    rintro e w14 ⟨rfl, hb⟩
    refine ⟨_, rfl, ?_⟩
    have n0_ := Aside0.mk (blk_below (g := gb493) (o := .cells #[.int .i64 a0_0, .bool true, .int .i64 a0_2] 30 (0, 0)) q27_ hb)
    have n1_ := Aside0.mk (below_step q17_ hb)
    clear BK493
    clear HB
    have BK493 := n0_
    have HB := n1_
    clear n0_ n1_
    (try clear hb)
    (try clear hb2)
    (try clear hk)
    (try clear hi)
    refine hK.out _ _ ⟨(blk_cell BK493.out 0).trans rfl, (blk_cell BK493.out 1).trans rfl, (blk_cell BK493.out 2).trans rfl⟩ (fun hHeld => ?_)
    clear hK K
    refine norm_ (a' := ?_) ?_ ?_
    rotate_left
    ·show Act.put _ (some 13) _ = _
     simp only [Act.put, List.setIfInBounds_toArray, List.set_cons_zero, List.set_cons_succ, i64_w, i32_w]
     rfl
    refine pure_ (i := 4) (N := some 14) (v := ?_) (a' := ?_) #[true, true, true, true, true, false] rfl rfl (by kernel_rfl) (fun _ _ _ h => h) (Or.inl ⟨by rfl, ?_⟩) ?_ ?_
    rotate_left
    ·intro w'
     go_simp
     with_reducible rfl
    rotate_left
    ·simp only [Act.put, List.setIfInBounds_toArray, List.set_cons_zero, List.set_cons_succ, i64_w, i32_w]
     rfl
    refine pure_ (i := 5) (N := some 2) (v := ?_) (a' := ?_) #[true, true, true, true, true, true] rfl rfl (by kernel_rfl) (fun _ _ _ h => h) (Or.inl ⟨by rfl, ?_⟩) ?_ ?_
    rotate_left
    ·intro w'
     go_simp
     with_reducible rfl
    rotate_left
    ·simp only [Act.put, List.setIfInBounds_toArray, List.set_cons_zero, List.set_cons_succ, i64_w, i32_w]
     rfl
    refine done_ (by kernel_rfl) ?_
    try go_wp2
    go_ret
    exact ⟨q25_, q17_⟩
   ·rw [if_neg c7] at H
    exact absurd H (by simp)
  ·replace c4 := Bool.eq_false_iff.mpr c4
   subst c4
   replace H : ((impl_bytesOf.f k a0_0 1).bind fun t497 => ((impl_LengthOf.f k a0_0 false).bind fun t498 => ((impl_bytesOf.f k a0_2 (wrap64 (t498 - 1))).bind fun t499 => (if t497.size + t499.size ≤ 9223372036854775807 then (some (t497 ++ t499)) else (none))))) = some r := by rw [if_neg (show ¬ (false = true) by decide)] at H; exact H
   replace H := Option.bind_eq_some_iff.mp H
   obtain ⟨t497, A150, H⟩ := H
   have A15 := Aside0.mk A150
   clear A150
   replace H := Option.bind_eq_some_iff.mp H
   obtain ⟨t498, A160, H⟩ := H
   have A16 := Aside0.mk A160
   clear A160
   replace H := Option.bind_eq_some_iff.mp H
   obtain ⟨t499, A170, H⟩ := H
   have A17 := Aside0.mk A170
   clear A170
   by_cases c18 : t497.size + t499.size ≤ 9223372036854775807
   ·rw [if_pos c18] at H
    have c18b0 := eq_true c18
    have c18b1 : decide (t497.size + t499.size ≤ 9223372036854775807) = true := decide_eq_true c18
    try have c18b2 : (9223372036854775807 < t497.size + t499.size) = False := eq_false (Nat.not_lt.2 c18)
    obtain rfl := Option.some.inj H
    go_enter Tryz.func17, Tryz.ntmps17
    try go_wp2_with (first | ((with_reducible refine gate_dst (N := 1) rfl ?_); refine box_event ?hg (N := 1) ?hd (cs := #[.int .i64 a0_0, .bool false, .int .i64 a0_2]) (t := 30) ?hr ?_; (case hd => rfl); (case hg => rfl); (case hr => exact q73_); intro gb493 hg w19 hbox hb; have n0_ := Aside0.mk (below_step q23_ hb); have n1_ := Aside0.mk (hbox); have n2_ := Aside0.mk ((q15_ : w.heap.size ≤ gb493)); have n3_ := Aside0.mk ((q15_ : w.heap.size ≤ gb493)); clear HB; have HB := n0_; have BK493 := n1_; have GW493 := n2_; have GE493 := n3_; clear n0_ n1_ n2_ n3_; clear hb hbox hg; have hcz20_0 : w19.cell? ⟨gb493, 0, none⟩ = some (.int .i64 a0_0) := (blk_cell BK493.out 0).trans rfl; have hcz20_1 : w19.cell? ⟨gb493, 1, none⟩ = some (.bool false) := (blk_cell BK493.out 1).trans rfl; have hcz20_2 : w19.cell? ⟨gb493, 2, none⟩ = some (.int .i64 a0_2) := (blk_cell BK493.out 2).trans rfl; have hfz20_0 := blk_frozen BK493.out 0; have hfz20_1 := blk_frozen BK493.out 1; have hfz20_2 := blk_frozen BK493.out 2) | ((with_reducible refine gate_callee (f := 20) rfl ?_); refine goesL_ (some 5) rfl rfl Tryz.func20 (by kernel_rfl) rfl #[.agg #[.int .i64 a0_0, .bool false, .int .i64 a0_2]] rfl q22_ ?_; (with_reducible refine (impl_InsOk.calls k a0_0 false a0_2 true _ A2.out).mono ?_); rintro e w21 ⟨rfl, hb⟩; refine ⟨_, rfl, ?_⟩; have n0_ := Aside0.mk (blk_below (g := gb493) (o := .cells #[.int .i64 a0_0, .bool false, .int .i64 a0_2] 30 (0, 0)) q27_ hb); have n1_ := Aside0.mk (below_step q17_ hb); clear BK493; clear HB; have BK493 := n0_; have HB := n1_; clear n0_ n1_; (try clear hb); have hcz22_0 : w21.cell? ⟨gb493, 0, none⟩ = some (.int .i64 a0_0) := (blk_cell BK493.out 0).trans rfl; have hcz22_1 : w21.cell? ⟨gb493, 1, none⟩ = some (.bool false) := (blk_cell BK493.out 1).trans rfl; have hcz22_2 : w21.cell? ⟨gb493, 2, none⟩ = some (.int .i64 a0_2) := (blk_cell BK493.out 2).trans rfl; have hfz22_0 := blk_frozen BK493.out 0; have hfz22_1 := blk_frozen BK493.out 1; have hfz22_2 := blk_frozen BK493.out 2))
    have n0_ := Aside0.mk (blk_drew BK493.out)
    have n1_ := Aside0.mk (below_drew1 HB.out)
    clear BK493
    clear HB
    have BK493 := n0_
    have HB := n1_
    clear n0_ n1_
    refine start_ (n := 12) (S := fun w' => w'.cell? ⟨gb493, 0, none⟩ = some (.int .i64 a0_0) ∧ w'.cell? ⟨gb493, 1, none⟩ = some (.bool false) ∧ w'.cell? ⟨gb493, 2, none⟩ = some (.int .i64 a0_2)) (ds := []) #[false, false, false, false, false, false, false, false, false, false, false, false] (by kernel_rfl) rfl rfl ⟨(blk_cell BK493.out 0).trans rfl, (blk_cell BK493.out 1).trans rfl, (blk_cell BK493.out 2).trans rfl⟩ (fun hHeld => ?_); refine with_tabW impl_InsBytes.tab5 impl_InsBytes.bits5 (fun HT_ HW_ => ?_)
    generalize w21.drew = w23 at BK493 HB hHeld ⊢
    refine pure_ (i := 0) (N := some 15) (v := ?_) (a' := ?_) #[true, false, false, false, false, false, false, false, false, false, false, false] rfl rfl (any_of HT_.out (by kernel_rfl)) (fun _ _ _ h => h) (Or.inl ⟨by rfl, ?_⟩) ?_ ?_
    rotate_left
    ·intro w'
     go_simp
     with_reducible rfl
    rotate_left
    ·simp only [Act.put, List.setIfInBounds_toArray, List.set_cons_zero, List.set_cons_succ, i64_w, i32_w]
     rfl
    refine pure_ (i := 3) (N := some 18) (v := ?_) (a' := ?_) #[true, false, false, true, false, false, false, false, false, false, false, false] rfl rfl (any_of HT_.out (by kernel_rfl)) (fun _ _ _ h => h) (Or.inl ⟨by rfl, ?_⟩) ?_ ?_
    rotate_left
    ·intro w'
     go_simp
     with_reducible rfl
    rotate_left
    ·simp only [Act.put, List.setIfInBounds_toArray, List.set_cons_zero, List.set_cons_succ, i64_w, i32_w]
     rfl
    refine pure_ (i := 5) (N := some 20) (v := ?_) (a' := ?_) #[true, false, false, true, false, true, false, false, false, false, false, false] rfl rfl (any_of HT_.out (by kernel_rfl)) (fun _ _ _ h => h) (Or.inl ⟨by rfl, ?_⟩) ?_ ?_
    rotate_left
    ·intro w'
     go_simp
     with_reducible rfl
    rotate_left
    ·simp only [Act.put, List.setIfInBounds_toArray, List.set_cons_zero, List.set_cons_succ, i64_w, i32_w]
     rfl
    refine take_ (i := 1) (N := some 16) (v := ?_) (a' := ?_) #[true, true, false, true, false, true, false, false, false, false, false, false] rfl rfl (take_ofW HT_.out HW_.out (by kernel_rfl)) (fun _ _ _ h => h) (Or.inl ⟨by rfl, ?_⟩) hHeld ?_ ?_
    rotate_left
    ·rintro w' ⟨s0, s1, s2⟩
     go_simp
     with_reducible rfl
    rotate_left
    ·simp only [Act.put, List.setIfInBounds_toArray, List.set_cons_zero, List.set_cons_succ, i64_w, i32_w]
     rfl
    refine take_ (i := 4) (N := some 19) (v := ?_) (a' := ?_) #[true, true, false, true, true, true, false, false, false, false, false, false] rfl rfl (take_ofW HT_.out HW_.out (by kernel_rfl)) (fun _ _ _ h => h) (Or.inl ⟨by rfl, ?_⟩) hHeld ?_ ?_
    rotate_left
    ·rintro w' ⟨s0, s1, s2⟩
     go_simp
     with_reducible rfl
    rotate_left
    ·simp only [Act.put, List.setIfInBounds_toArray, List.set_cons_zero, List.set_cons_succ, i64_w, i32_w]
     rfl
    refine take_ (i := 6) (N := some 21) (v := ?_) (a' := ?_) #[true, true, false, true, true, true, true, false, false, false, false, false] rfl rfl (take_ofW HT_.out HW_.out (by kernel_rfl)) (fun _ _ _ h => h) (Or.inl ⟨by rfl, ?_⟩) hHeld ?_ ?_
    rotate_left
    ·rintro w' ⟨s0, s1, s2⟩
     go_simp
     with_reducible rfl
    rotate_left
    ·simp only [Act.put, List.setIfInBounds_toArray, List.set_cons_zero, List.set_cons_succ, i64_w, i32_w]
     rfl
    refine one_ (i := 2) (N := some 17) #[true, true, true, true, true, true, true, false, false, false, false, false] rfl rfl (one_of HT_.out (by kernel_rfl)) (by decide) (fun K hK => ?_)
    refine goes_ Tryz.func55 (by kernel_rfl) rfl #[.int .i64 a0_0, .int .i64 1] (by rfl) rfl rfl q22_ ?_
    with_reducible refine (impl_bytesOf.calls k a0_0 1 t497 _ A15.out).mono ?_
    rintro e w24 ⟨rfl, hb⟩
    refine ⟨_, rfl, ?_⟩
    have n0_ := Aside0.mk (blk_below (g := gb493) (o := .cells #[.int .i64 a0_0, .bool false, .int .i64 a0_2] 30 (0, 0)) q27_ hb)
    have n1_ := Aside0.mk (below_step q17_ hb)
    clear BK493
    clear HB
    have BK493 := n0_
    have HB := n1_
    clear n0_ n1_
    (try clear hb)
    (try clear hb2)
    (try clear hk)
    (try clear hi)
    refine hK.out _ _ ⟨(blk_cell BK493.out 0).trans rfl, (blk_cell BK493.out 1).trans rfl, (blk_cell BK493.out 2).trans rfl⟩ (fun hHeld => ?_)
    clear hK K
    refine norm_ (a' := ?_) ?_ ?_
    rotate_left
    ·show Act.put _ (some 17) _ = _
     simp only [Act.put, List.setIfInBounds_toArray, List.set_cons_zero, List.set_cons_succ, i64_w, i32_w]
     rfl
    refine one_ (i := 7) (N := some 22) #[true, true, true, true, true, true, true, true, false, false, false, false] rfl rfl (one_of HT_.out (by kernel_rfl)) (by decide) (fun K hK => ?_)
    refine goes_ Tryz.func13 (by kernel_rfl) rfl #[.int .i64 a0_0, .bool false] (by rfl) rfl rfl q22_ ?_
    with_reducible refine (impl_LengthOf.calls k a0_0 false t498 _ A16.out).mono ?_
    rintro e w25 ⟨rfl, hb⟩
    refine ⟨_, rfl, ?_⟩
    have n0_ := Aside0.mk (blk_below (g := gb493) (o := .cells #[.int .i64 a0_0, .bool false, .int .i64 a0_2] 30 (0, 0)) q27_ hb)
    have n1_ := Aside0.mk (below_step q17_ hb)
    clear BK493
    clear HB
    have BK493 := n0_
    have HB := n1_
    clear n0_ n1_
    (try clear hb)
    (try clear hb2)
    (try clear hk)
    (try clear hi)
    refine hK.out _ _ ⟨(blk_cell BK493.out 0).trans rfl, (blk_cell BK493.out 1).trans rfl, (blk_cell BK493.out 2).trans rfl⟩ (fun hHeld => ?_)
    clear hK K
    refine norm_ (a' := ?_) ?_ ?_
    rotate_left
    ·show Act.put _ (some 22) _ = _
     simp only [Act.put, List.setIfInBounds_toArray, List.set_cons_zero, List.set_cons_succ, i64_w, i32_w]
     rfl
    refine pure_ (i := 8) (N := some 23) (v := ?_) (a' := ?_) #[true, true, true, true, true, true, true, true, true, false, false, false] rfl rfl (any_of HT_.out (by kernel_rfl)) (fun _ _ _ h => h) (Or.inl ⟨by rfl, ?_⟩) ?_ ?_
    rotate_left
    ·intro w'
     go_simp
     with_reducible rfl
    rotate_left
    ·simp only [Act.put, List.setIfInBounds_toArray, List.set_cons_zero, List.set_cons_succ, i64_w, i32_w]
     rfl
    refine one_ (i := 9) (N := some 24) #[true, true, true, true, true, true, true, true, true, true, false, false] rfl rfl (one_of HT_.out (by kernel_rfl)) (by decide) (fun K hK => ?_)
    refine goes_ Tryz.func55 (by kernel_rfl) rfl #[.int .i64 a0_2, .int .i64 (wrap64 (t498 - 1))] (by rfl) rfl rfl q22_ ?_
    with_reducible refine (impl_bytesOf.calls k a0_2 (wrap64 (t498 - 1)) t499 _ A17.out).mono ?_
    rintro e w26 ⟨rfl, hb⟩
    refine ⟨_, rfl, ?_⟩
    have n0_ := Aside0.mk (blk_below (g := gb493) (o := .cells #[.int .i64 a0_0, .bool false, .int .i64 a0_2] 30 (0, 0)) q27_ hb)
    have n1_ := Aside0.mk (below_step q17_ hb)
    clear BK493
    clear HB
    have BK493 := n0_
    have HB := n1_
    clear n0_ n1_
    (try clear hb)
    (try clear hb2)
    (try clear hk)
    (try clear hi)
    refine hK.out _ _ ⟨(blk_cell BK493.out 0).trans rfl, (blk_cell BK493.out 1).trans rfl, (blk_cell BK493.out 2).trans rfl⟩ (fun hHeld => ?_)
    clear hK K
    refine norm_ (a' := ?_) ?_ ?_
    rotate_left
    ·show Act.put _ (some 24) _ = _
     simp only [Act.put, List.setIfInBounds_toArray, List.set_cons_zero, List.set_cons_succ, i64_w, i32_w]
     rfl
    refine pure_ (i := 10) (N := some 25) (v := ?_) (a' := ?_) #[true, true, true, true, true, true, true, true, true, true, true, false] rfl rfl (any_of HT_.out (by kernel_rfl)) (fun _ _ _ h => h) (Or.inl ⟨by rfl, ?_⟩) ?_ ?_
    rotate_left
    ·intro w'
     go_simp
     with_reducible rfl
    rotate_left
    ·simp only [Act.put, List.setIfInBounds_toArray, List.set_cons_zero, List.set_cons_succ, i64_w, i32_w]
     rfl
    refine pure_ (i := 11) (N := some 2) (v := ?_) (a' := ?_) #[true, true, true, true, true, true, true, true, true, true, true, true] rfl rfl (any_of HT_.out (by kernel_rfl)) (fun _ _ _ h => h) (Or.inl ⟨by rfl, ?_⟩) ?_ ?_
    rotate_left
    ·intro w'
     go_simp
     with_reducible rfl
    rotate_left
    ·simp only [Act.put, List.setIfInBounds_toArray, List.set_cons_zero, List.set_cons_succ, i64_w, i32_w]
     rfl
    refine done_ (done_of HT_.out (by kernel_rfl)) ?_
    try go_wp2
    go_ret
    exact ⟨q25_, q17_⟩
   ·rw [if_neg c18] at H
    exact absurd H (by simp)
 ·replace c3 := Bool.eq_false_iff.mpr c3
  subst c3
  replace H : (some (⟨#[]⟩ : ByteArray)) = some r := by rw [if_neg (show ¬ (false = true) by decide)] at H; exact H
  obtain rfl := Option.some.inj H
  go_enter Tryz.func17, Tryz.ntmps17
  go_wp2_with (first | ((with_reducible refine gate_dst (N := 1) rfl ?_); refine box_event ?hg (N := 1) ?hd (cs := #[.int .i64 a0_0, .bool a0_1, .int .i64 a0_2]) (t := 30) ?hr ?_; (case hd => rfl); (case hg => rfl); (case hr => exact q73_); intro gb493 hg w27 hbox hb; have n0_ := Aside0.mk (below_step q23_ hb); have n1_ := Aside0.mk (hbox); have n2_ := Aside0.mk ((q15_ : w.heap.size ≤ gb493)); have n3_ := Aside0.mk ((q15_ : w.heap.size ≤ gb493)); clear HB; have HB := n0_; have BK493 := n1_; have GW493 := n2_; have GE493 := n3_; clear n0_ n1_ n2_ n3_; clear hb hbox hg; have hcz28_0 : w27.cell? ⟨gb493, 0, none⟩ = some (.int .i64 a0_0) := (blk_cell BK493.out 0).trans rfl; have hcz28_1 : w27.cell? ⟨gb493, 1, none⟩ = some (.bool a0_1) := (blk_cell BK493.out 1).trans rfl; have hcz28_2 : w27.cell? ⟨gb493, 2, none⟩ = some (.int .i64 a0_2) := (blk_cell BK493.out 2).trans rfl; have hfz28_0 := blk_frozen BK493.out 0; have hfz28_1 := blk_frozen BK493.out 1; have hfz28_2 := blk_frozen BK493.out 2) | ((with_reducible refine gate_callee (f := 20) rfl ?_); refine goesL_ (some 5) rfl rfl Tryz.func20 (by kernel_rfl) rfl #[.agg #[.int .i64 a0_0, .bool a0_1, .int .i64 a0_2]] rfl q22_ ?_; (with_reducible refine (impl_InsOk.calls k a0_0 a0_1 a0_2 false _ A2.out).mono ?_); rintro e w29 ⟨rfl, hb⟩; refine ⟨_, rfl, ?_⟩; have n0_ := Aside0.mk (blk_below (g := gb493) (o := .cells #[.int .i64 a0_0, .bool a0_1, .int .i64 a0_2] 30 (0, 0)) q27_ hb); have n1_ := Aside0.mk (below_step q17_ hb); clear BK493; clear HB; have BK493 := n0_; have HB := n1_; clear n0_ n1_; (try clear hb)))
  go_ret
  exact ⟨q25_, q17_⟩
def laws_FnLengths.j0 : Nat → Int → Bool → Bool → Int → Int → Bool → Option (Bool)
 | 0, _, _, _, _, _, _ => none
 | k + 1, x3, x4, x5, x6, x7, x40 => if x40 = true then ((spec_LengthOf.f k x3 x4).bind fun t508 => (if x6 = t508 then ((spec_CyclesOf.f k x3 x4 x5).bind fun t509 => (if x7 = t509 then (some (x7 == 0)) else (some false))) else (some false))) else ((impl_InsBytes.f k x3 x4 0).bind fun t510 => (if (t510.size : Int) = x6 then (if x7 > 0 then (if x7 < 7 then ((impl_CyclesOf.f k x3 x4 true).bind fun t511 => ((impl_CyclesOf.f k x3 x4 false).bind fun t512 => (some (decide (t511 ≥ t512))))) else (some false)) else (some false)) else (some false)))
def laws_FnLengths.f (k : Nat) (l0 : List Int) : Option (Bool) := (laws_big.f l0).bind fun t500 => (if t500 = true then (some true) else ((spec_DrawCyclesOf.f l0).bind fun bt501 => ((impl_LengthOf.f k bt501.1 bt501.2.1).bind fun t504 => ((impl_CyclesOf.f k bt501.1 bt501.2.1 bt501.2.2).bind fun t505 => ((spec_LengthOf.f k bt501.1 bt501.2.1).bind fun t506 => (if t504 = t506 then ((spec_CyclesOf.f k bt501.1 bt501.2.1 bt501.2.2).bind fun t507 => (if t505 = t507 then (laws_FnLengths.j0 k bt501.1 bt501.2.1 bt501.2.2 t504 t505 (t504 == 0)) else (laws_FnLengths.j0 k bt501.1 bt501.2.1 bt501.2.2 t504 t505 true))) else (laws_FnLengths.j0 k bt501.1 bt501.2.1 bt501.2.2 t504 t505 true)))))))
theorem laws_FnLengths.mono_l : ∀ k, (∀ y0 y1 y2 y3 y4 y5, LeO (laws_FnLengths.j0 k y0 y1 y2 y3 y4 y5) (laws_FnLengths.j0 (k + 1) y0 y1 y2 y3 y4 y5))
 | 0 => fun _ _ _ _ _ _ r h => by simp [laws_FnLengths.j0] at h
 | k + 1 => by
  have ih0 := laws_FnLengths.mono_l k
  ·intro y0 y1 y2 y3 y4 y5
   unfold laws_FnLengths.j0
   repeat' first
   | (with_reducible first | exact ih0 _ _ _ _ _ _ | exact impl_CyclesOf.mono _ _ _ _ | exact impl_InsBytes.mono _ _ _ _ | exact impl_LengthOf.mono _ _ _ | exact spec_CyclesOf.mono _ _ _ _ | exact spec_LengthOf.mono _ _ _ | exact LeO.refl _ | exact LeO.none _ | refine LeO.ite ?_ ?_ | refine LeO.bind ?_ (fun _ => ?_))
   | exact ih0 _ _ _ _ _ _
   | exact impl_CyclesOf.mono _ _ _ _
   | exact impl_InsBytes.mono _ _ _ _
   | exact impl_LengthOf.mono _ _ _
   | exact spec_CyclesOf.mono _ _ _ _
   | exact spec_LengthOf.mono _ _ _
   | exact LeO.none _
   | refine LeO.ite ?_ ?_
   | refine LeO.bind ?_ (fun _ => ?_)
theorem laws_FnLengths.mono : ∀ a0 k, LeO (laws_FnLengths.f k a0) (laws_FnLengths.f (k + 1) a0) := by
 intro a0 k
 have ih0 := laws_FnLengths.mono_l k
 unfold laws_FnLengths.f
 repeat' first
   | (with_reducible first | exact ih0 _ _ _ _ _ _ | exact impl_CyclesOf.mono _ _ _ _ | exact impl_InsBytes.mono _ _ _ _ | exact impl_LengthOf.mono _ _ _ | exact spec_CyclesOf.mono _ _ _ _ | exact spec_LengthOf.mono _ _ _ | exact LeO.refl _ | exact LeO.none _ | refine LeO.ite ?_ ?_ | refine LeO.bind ?_ (fun _ => ?_))
   | exact ih0 _ _ _ _ _ _
   | exact impl_CyclesOf.mono _ _ _ _
   | exact impl_InsBytes.mono _ _ _ _
   | exact impl_LengthOf.mono _ _ _
   | exact spec_CyclesOf.mono _ _ _ _
   | exact spec_LengthOf.mono _ _ _
   | exact LeO.none _
   | refine LeO.ite ?_ ?_
   | refine LeO.bind ?_ (fun _ => ?_)
theorem laws_FnLengths.calls (k : Nat) (A0 : Option Addr) (c0 : Nat) (l0 : List Int) (r : Bool) (w : World) (hr0 : Kd.C (Kd.int .u8) w A0 l0.length l0) (hc0 : l0.length ≤ c0) (h : laws_FnLengths.f k l0 = some r) (hG : Go.Proofs.YtodlnnoekccmmaaGreatDoor.LibW.GL w := by first | exact hG | exact hG.below q1_ | exact hG.drewN _) :
  Calls Tryz.prog 3 #[.slice A0 l0.length c0] w fun e w' => e = .returned (.bool r) ∧ Below w.heap.size w w' := by
 have hu30 := Tryz.underlying30
 have HR0 := Aside0.mk hr0
 have HC0 := Aside0.mk hc0
 clear hr0 hc0
 have HB := Aside0.mk (Below.refl w.heap.size w)
 have H : ((laws_big.f l0).bind fun t500 => (if t500 = true then (some true) else ((spec_DrawCyclesOf.f l0).bind fun bt501 => ((impl_LengthOf.f k bt501.1 bt501.2.1).bind fun t504 => ((impl_CyclesOf.f k bt501.1 bt501.2.1 bt501.2.2).bind fun t505 => ((spec_LengthOf.f k bt501.1 bt501.2.1).bind fun t506 => (if t504 = t506 then ((spec_CyclesOf.f k bt501.1 bt501.2.1 bt501.2.2).bind fun t507 => (if t505 = t507 then (laws_FnLengths.j0 k bt501.1 bt501.2.1 bt501.2.2 t504 t505 (t504 == 0)) else (laws_FnLengths.j0 k bt501.1 bt501.2.1 bt501.2.2 t504 t505 true))) else (laws_FnLengths.j0 k bt501.1 bt501.2.1 bt501.2.2 t504 t505 true)))))))) = some r := h
 clear h
 replace H := Option.bind_eq_some_iff.mp H
 obtain ⟨t500, A20, H⟩ := H
 have A2 := Aside0.mk A20
 clear A20
 by_cases c3 : t500 = true
 ·subst c3
  replace H : (some true) = some r := by rw [if_pos rfl] at H; exact H
  obtain rfl := Option.some.inj H
  go_enter Tryz.func3, Tryz.ntmps3
  go_wp2_with (first | ((with_reducible refine gate_callee (f := 11) rfl ?_); refine goesL_ (some 10) rfl rfl Tryz.func11 (by kernel_rfl) rfl #[.slice A0 l0.length c0] rfl q22_ ?_; (with_reducible refine (laws_big.calls _ _ l0 true _ ?side1 ?side2 A2.out).mono ?_); (case side1 => exact q71_); (case side2 => exact HC0.out); rintro e w' ⟨rfl, ⟨nd, rfl⟩⟩; refine ⟨_, rfl, ?_⟩))
  go_ret
  exact ⟨q25_, q23_⟩
 ·replace c3 := Bool.eq_false_iff.mpr c3
  subst c3
  replace H : ((spec_DrawCyclesOf.f l0).bind fun bt501 => ((impl_LengthOf.f k bt501.1 bt501.2.1).bind fun t504 => ((impl_CyclesOf.f k bt501.1 bt501.2.1 bt501.2.2).bind fun t505 => ((spec_LengthOf.f k bt501.1 bt501.2.1).bind fun t506 => (if t504 = t506 then ((spec_CyclesOf.f k bt501.1 bt501.2.1 bt501.2.2).bind fun t507 => (if t505 = t507 then (laws_FnLengths.j0 k bt501.1 bt501.2.1 bt501.2.2 t504 t505 (t504 == 0)) else (laws_FnLengths.j0 k bt501.1 bt501.2.1 bt501.2.2 t504 t505 true))) else (laws_FnLengths.j0 k bt501.1 bt501.2.1 bt501.2.2 t504 t505 true)))))) = some r := by rw [if_neg (show ¬ (false = true) by decide)] at H; exact H
  replace H := Option.bind_eq_some_iff.mp H
  obtain ⟨⟨t501, t502, t503⟩, A40, H⟩ := H
  replace H : ((impl_LengthOf.f k t501 t502).bind fun t504 => ((impl_CyclesOf.f k t501 t502 t503).bind fun t505 => ((spec_LengthOf.f k t501 t502).bind fun t506 => (if t504 = t506 then ((spec_CyclesOf.f k t501 t502 t503).bind fun t507 => (if t505 = t507 then (laws_FnLengths.j0 k t501 t502 t503 t504 t505 (t504 == 0)) else (laws_FnLengths.j0 k t501 t502 t503 t504 t505 true))) else (laws_FnLengths.j0 k t501 t502 t503 t504 t505 true))))) = some r := H
  have A4 := Aside0.mk A40
  clear A40
  replace H := Option.bind_eq_some_iff.mp H
  obtain ⟨t504, A50, H⟩ := H
  have A5 := Aside0.mk A50
  clear A50
  replace H := Option.bind_eq_some_iff.mp H
  obtain ⟨t505, A60, H⟩ := H
  have A6 := Aside0.mk A60
  clear A60
  have HC7 := Aside0.mk H
  clear H
  go_enter Tryz.func3, Tryz.ntmps3
  go_upto_region 6 with (first | ((with_reducible refine gate_callee (f := 11) rfl ?_); refine goesL_ (some 10) rfl rfl Tryz.func11 (by kernel_rfl) rfl #[.slice A0 l0.length c0] rfl q22_ ?_; (with_reducible refine (laws_big.calls _ _ l0 false _ ?side1 ?side2 A2.out).mono ?_); (case side1 => exact q71_); (case side2 => exact HC0.out); rintro e w' ⟨rfl, ⟨nd, rfl⟩⟩; refine ⟨_, rfl, ?_⟩) | ((with_reducible refine gate_callee (f := 12) rfl ?_); refine goesL_ (some 13) rfl rfl Tryz.func12 (by kernel_rfl) rfl #[.slice A0 l0.length c0] rfl q22_ ?_; (with_reducible refine (spec_DrawCyclesOf.calls _ _ l0 t501 t502 t503 _ ?side1 ?side2 A4.out).mono ?_); (case side1 => exact q71_); (case side2 => exact HC0.out); rintro e w8 ⟨rfl, hb⟩; refine ⟨_, rfl, ?_⟩; replace HB := Aside0.mk (below_step q23_ hb); (try clear hb)) | ((with_reducible refine gate_callee (f := 13) rfl ?_); refine goesL_ (some 19) rfl rfl Tryz.func13 (by kernel_rfl) rfl #[.int .i64 t501, .bool t502] rfl q22_ ?_; (with_reducible refine (impl_LengthOf.calls k t501 t502 t504 _ A5.out).mono ?_); rintro e w9 ⟨rfl, hb⟩; refine ⟨_, rfl, ?_⟩; replace HB := Aside0.mk (below_step q23_ hb); (try clear hb)) | ((with_reducible refine gate_callee (f := 14) rfl ?_); refine goesL_ (some 23) rfl rfl Tryz.func14 (by kernel_rfl) rfl #[.int .i64 t501, .bool t502, .bool t503] rfl q22_ ?_; (with_reducible refine (impl_CyclesOf.calls k t501 t502 t503 t505 _ A6.out).mono ?_); rintro e w10 ⟨rfl, hb⟩; refine ⟨_, rfl, ?_⟩; replace HB := Aside0.mk (below_step q23_ hb); (try clear hb)))
  (try simp only [Act.put, List.setIfInBounds_toArray, List.set_cons_zero, List.set_cons_succ])
  go_cut [40] (fun v40 wc => ∃ (kq : Nat) (x40_6 : Bool), v40 = .bool x40_6 ∧ Aside0 (laws_FnLengths.j0 kq t501 t502 t503 t504 t505 x40_6 = some r) ∧ Aside0 (kq ≤ k) ∧ Aside0 (Below w.heap.size w wc))
  case first =>
   have H := HC7.out
   clear HC7
   replace H := Option.bind_eq_some_iff.mp H
   obtain ⟨t506, A110, H⟩ := H
   have A11 := Aside0.mk A110
   clear A110
   by_cases c12 : t504 = t506
   ·rw [if_pos c12] at H
    have c12b0 : (t504 == t506) = true := beq_iff_eq.mpr c12
    have c12b1 : (t504 != t506) = false := bne_eq_false_iff_eq.mpr c12
    clear c12
    (first | rw [c12b0] | (simp only [i64_w, i32_w]; rw [c12b0]) | skip)
    replace H := Option.bind_eq_some_iff.mp H
    obtain ⟨t507, A130, H⟩ := H
    have A13 := Aside0.mk A130
    clear A130
    by_cases c14 : t505 = t507
    ·rw [if_pos c14] at H
     have c14b0 : (t505 == t507) = true := beq_iff_eq.mpr c14
     have c14b1 : (t505 != t507) = false := bne_eq_false_iff_eq.mpr c14
     clear c14
     have H' := Aside0.mk H
     clear H
     go_wp2_with (first | ((with_reducible refine gate_callee (f := 15) rfl ?_); refine goesL_ (some 27) rfl rfl Tryz.func15 (by kernel_rfl) rfl #[.int .i64 t501, .bool t502] rfl q22_ ?_; (with_reducible refine (spec_LengthOf.calls k t501 t502 t506 _ A11.out).mono ?_); rintro e w15 ⟨rfl, hb⟩; refine ⟨_, rfl, ?_⟩; replace HB := Aside0.mk (below_step q23_ hb); (try clear hb)) | (go_at_call 16; (with_reducible refine (spec_CyclesOf.calls k t501 t502 t503 t507 _ A13.out).mono ?_); rintro e w16 ⟨rfl, hb⟩; replace HB := Aside0.mk (below_step q23_ hb); (try clear hb)))
     go_meet
     case rel => exact ⟨_, ((t504 == 0)), q29_, H', ⟨q56_⟩, ⟨q23_⟩⟩
    ·rw [if_neg c14] at H
     have c14b0 : (t505 == t507) = false := beq_eq_false_iff_ne.mpr c14
     have c14b1 : (t505 != t507) = true := bne_iff_ne.mpr c14
     have H' := Aside0.mk H
     clear H
     go_wp2_with (first | ((with_reducible refine gate_callee (f := 15) rfl ?_); refine goesL_ (some 27) rfl rfl Tryz.func15 (by kernel_rfl) rfl #[.int .i64 t501, .bool t502] rfl q22_ ?_; (with_reducible refine (spec_LengthOf.calls k t501 t502 t506 _ A11.out).mono ?_); rintro e w17 ⟨rfl, hb⟩; refine ⟨_, rfl, ?_⟩; replace HB := Aside0.mk (below_step q23_ hb); (try clear hb)) | (go_at_call 16; (with_reducible refine (spec_CyclesOf.calls k t501 t502 t503 t507 _ A13.out).mono ?_); rintro e w18 ⟨rfl, hb⟩; replace HB := Aside0.mk (below_step q23_ hb); (try clear hb)))
     go_meet
     case rel => exact ⟨_, (true), q29_, H', ⟨q56_⟩, ⟨q23_⟩⟩
   ·rw [if_neg c12] at H
    have c12b0 : (t504 == t506) = false := beq_eq_false_iff_ne.mpr c12
    have c12b1 : (t504 != t506) = true := bne_iff_ne.mpr c12
    (first | rw [c12b0] | (simp only [i64_w, i32_w]; rw [c12b0]) | skip)
    have H' := Aside0.mk H
    clear H
    go_wp2_with (first | ((with_reducible refine gate_callee (f := 15) rfl ?_); refine goesL_ (some 27) rfl rfl Tryz.func15 (by kernel_rfl) rfl #[.int .i64 t501, .bool t502] rfl q22_ ?_; (with_reducible refine (spec_LengthOf.calls k t501 t502 t506 _ A11.out).mono ?_); rintro e w19 ⟨rfl, hb⟩; refine ⟨_, rfl, ?_⟩; replace HB := Aside0.mk (below_step q23_ hb); (try clear hb)))
    go_meet
    case rel => exact ⟨_, (true), q29_, H', ⟨q56_⟩, ⟨q23_⟩⟩
  case rest =>
   clear HC7
   try clear c1
   try clear p2
   try clear c3
   try clear p6
   try clear c11
   try clear c12
   try clear c12b0
   try clear c12b1
   try clear c13
   try clear c14
   try clear c14b0
   try clear c14b1
   try clear c15
   obtain ⟨kq, x40_6, rfl, HA, HJ6, HB⟩ := hcut
   cases kq with
   | zero => exact absurd HA.out (by simp [laws_FnLengths.j0])
   | succ kj6 =>
    have H := HA.out
    clear HA
    simp only [laws_FnLengths.j0] at H
    by_cases c20 : x40_6 = true
    ·subst c20
     replace H : ((spec_LengthOf.f kj6 t501 t502).bind fun t508 => (if t504 = t508 then ((spec_CyclesOf.f kj6 t501 t502 t503).bind fun t509 => (if t505 = t509 then (some (t505 == 0)) else (some false))) else (some false))) = some r := by rw [if_pos rfl] at H; exact H
     replace H := Option.bind_eq_some_iff.mp H
     obtain ⟨t508, A210, H⟩ := H
     have A21 := Aside0.mk A210
     clear A210
     by_cases c22 : t504 = t508
     ·rw [if_pos c22] at H
      have c22b0 : (t504 == t508) = true := beq_iff_eq.mpr c22
      have c22b1 : (t504 != t508) = false := bne_eq_false_iff_eq.mpr c22
      clear c22
      replace H := Option.bind_eq_some_iff.mp H
      obtain ⟨t509, A230, H⟩ := H
      have A23 := Aside0.mk A230
      clear A230
      by_cases c24 : t505 = t509
      ·rw [if_pos c24] at H
       have c24b0 : (t505 == t509) = true := beq_iff_eq.mpr c24
       have c24b1 : (t505 != t509) = false := bne_eq_false_iff_eq.mpr c24
       clear c24
       obtain rfl := Option.some.inj H
       go_wp2_with (first | ((with_reducible refine gate_callee (f := 15) rfl ?_); refine goesL_ (some 44) rfl rfl Tryz.func15 (by kernel_rfl) rfl #[.int .i64 t501, .bool t502] rfl q22_ ?_; (with_reducible refine (spec_LengthOf.calls kj6 t501 t502 t508 _ A21.out).mono ?_); rintro e w25 ⟨rfl, hb⟩; refine ⟨_, rfl, ?_⟩; replace HB := Aside0.mk (below_step q23_ hb); (try clear hb)) | (go_at_call 16; (with_reducible refine (spec_CyclesOf.calls kj6 t501 t502 t503 t509 _ A23.out).mono ?_); rintro e w26 ⟨rfl, hb⟩; replace HB := Aside0.mk (below_step q23_ hb); (try clear hb)))
       go_ret
       exact ⟨q25_, q23_⟩
      ·rw [if_neg c24] at H
       have c24b0 : (t505 == t509) = false := beq_eq_false_iff_ne.mpr c24
       have c24b1 : (t505 != t509) = true := bne_iff_ne.mpr c24
       obtain rfl := Option.some.inj H
       go_wp2_with (first | ((with_reducible refine gate_callee (f := 15) rfl ?_); refine goesL_ (some 44) rfl rfl Tryz.func15 (by kernel_rfl) rfl #[.int .i64 t501, .bool t502] rfl q22_ ?_; (with_reducible refine (spec_LengthOf.calls kj6 t501 t502 t508 _ A21.out).mono ?_); rintro e w27 ⟨rfl, hb⟩; refine ⟨_, rfl, ?_⟩; replace HB := Aside0.mk (below_step q23_ hb); (try clear hb)) | (go_at_call 16; (with_reducible refine (spec_CyclesOf.calls kj6 t501 t502 t503 t509 _ A23.out).mono ?_); rintro e w28 ⟨rfl, hb⟩; replace HB := Aside0.mk (below_step q23_ hb); (try clear hb)))
       go_ret
       exact ⟨q25_, q23_⟩
     ·rw [if_neg c22] at H
      have c22b0 : (t504 == t508) = false := beq_eq_false_iff_ne.mpr c22
      have c22b1 : (t504 != t508) = true := bne_iff_ne.mpr c22
      obtain rfl := Option.some.inj H
      go_wp2_with (first | ((with_reducible refine gate_callee (f := 15) rfl ?_); refine goesL_ (some 44) rfl rfl Tryz.func15 (by kernel_rfl) rfl #[.int .i64 t501, .bool t502] rfl q22_ ?_; (with_reducible refine (spec_LengthOf.calls kj6 t501 t502 t508 _ A21.out).mono ?_); rintro e w29 ⟨rfl, hb⟩; refine ⟨_, rfl, ?_⟩; replace HB := Aside0.mk (below_step q23_ hb); (try clear hb)))
      go_ret
      exact ⟨q25_, q23_⟩
    ·replace c20 := Bool.eq_false_iff.mpr c20
     subst c20
     replace H : ((impl_InsBytes.f kj6 t501 t502 0).bind fun t510 => (if (t510.size : Int) = t504 then (if t505 > 0 then (if t505 < 7 then ((impl_CyclesOf.f kj6 t501 t502 true).bind fun t511 => ((impl_CyclesOf.f kj6 t501 t502 false).bind fun t512 => (some (decide (t511 ≥ t512))))) else (some false)) else (some false)) else (some false))) = some r := by rw [if_neg (show ¬ (false = true) by decide)] at H; exact H
     replace H := Option.bind_eq_some_iff.mp H
     obtain ⟨t510, A300, H⟩ := H
     have A30 := Aside0.mk A300
     clear A300
     by_cases c31 : (t510.size : Int) = t504
     ·rw [if_pos c31] at H
      have c31b0 : ((t510.size : Int) == t504) = true := beq_iff_eq.mpr c31
      have c31b1 : ((t510.size : Int) != t504) = false := bne_eq_false_iff_eq.mpr c31
      clear c31
      by_cases c32 : t505 > 0
      ·rw [if_pos c32] at H
       have c32b0 : decide (0 < t505) = true := decide_eq_true c32
       clear c32
       by_cases c33 : t505 < 7
       ·rw [if_pos c33] at H
        have c33b0 : decide (t505 < 7) = true := decide_eq_true c33
        clear c33
        replace H := Option.bind_eq_some_iff.mp H
        obtain ⟨t511, A340, H⟩ := H
        have A34 := Aside0.mk A340
        clear A340
        replace H := Option.bind_eq_some_iff.mp H
        obtain ⟨t512, A350, H⟩ := H
        have A35 := Aside0.mk A350
        clear A350
        obtain rfl := Option.some.inj H
        go_wp2_with (first | ((with_reducible refine gate_callee (f := 17) rfl ?_); refine goesL_ (some 61) rfl rfl Tryz.func17 (by kernel_rfl) rfl #[.agg #[.int .i64 t501, .bool t502, .int .i64 0]] rfl q22_ ?_; (with_reducible refine (impl_InsBytes.calls kj6 t501 t502 0 t510 _ A30.out).mono ?_); rintro e w36 ⟨rfl, hb⟩; refine ⟨_, rfl, ?_⟩; replace HB := Aside0.mk (below_step q23_ hb); (try clear hb)) | (go_at_call 14; (with_reducible refine (impl_CyclesOf.calls kj6 t501 t502 true t511 _ A34.out).mono ?_); rintro e w37 ⟨rfl, hb⟩; replace HB := Aside0.mk (below_step q23_ hb); (try clear hb)) | (go_at_call 14; (with_reducible refine (impl_CyclesOf.calls kj6 t501 t502 false t512 _ A35.out).mono ?_); rintro e w38 ⟨rfl, hb⟩; replace HB := Aside0.mk (below_step q23_ hb); (try clear hb)))
        go_ret
        exact ⟨q25_, q23_⟩
       ·rw [if_neg c33] at H
        have c33b0 : decide (t505 < 7) = false := decide_eq_false c33
        clear c33
        obtain rfl := Option.some.inj H
        go_wp2_with (first | ((with_reducible refine gate_callee (f := 17) rfl ?_); refine goesL_ (some 61) rfl rfl Tryz.func17 (by kernel_rfl) rfl #[.agg #[.int .i64 t501, .bool t502, .int .i64 0]] rfl q22_ ?_; (with_reducible refine (impl_InsBytes.calls kj6 t501 t502 0 t510 _ A30.out).mono ?_); rintro e w39 ⟨rfl, hb⟩; refine ⟨_, rfl, ?_⟩; replace HB := Aside0.mk (below_step q23_ hb); (try clear hb)))
        go_ret
        exact ⟨q25_, q23_⟩
      ·rw [if_neg c32] at H
       have c32b0 : decide (0 < t505) = false := decide_eq_false c32
       clear c32
       obtain rfl := Option.some.inj H
       go_wp2_with (first | ((with_reducible refine gate_callee (f := 17) rfl ?_); refine goesL_ (some 61) rfl rfl Tryz.func17 (by kernel_rfl) rfl #[.agg #[.int .i64 t501, .bool t502, .int .i64 0]] rfl q22_ ?_; (with_reducible refine (impl_InsBytes.calls kj6 t501 t502 0 t510 _ A30.out).mono ?_); rintro e w40 ⟨rfl, hb⟩; refine ⟨_, rfl, ?_⟩; replace HB := Aside0.mk (below_step q23_ hb); (try clear hb)))
       go_ret
       exact ⟨q25_, q23_⟩
     ·rw [if_neg c31] at H
      have c31b0 : ((t510.size : Int) == t504) = false := beq_eq_false_iff_ne.mpr c31
      have c31b1 : ((t510.size : Int) != t504) = true := bne_iff_ne.mpr c31
      obtain rfl := Option.some.inj H
      go_wp2_with (first | ((with_reducible refine gate_callee (f := 17) rfl ?_); refine goesL_ (some 61) rfl rfl Tryz.func17 (by kernel_rfl) rfl #[.agg #[.int .i64 t501, .bool t502, .int .i64 0]] rfl q22_ ?_; (with_reducible refine (impl_InsBytes.calls kj6 t501 t502 0 t510 _ A30.out).mono ?_); rintro e w41 ⟨rfl, hb⟩; refine ⟨_, rfl, ?_⟩; replace HB := Aside0.mk (below_step q23_ hb); (try clear hb)))
      go_ret
      exact ⟨q25_, q23_⟩
/-- THE ONE PURE STATEMENT of laws_FnLengths: yours. -/
def laws_FnLengths.Pure : Prop := ∀ (l0 : List Int), l0.length ≤ maxLen → l0.length * 1 ≤ 140737488351232 → (∀ x ∈ l0, (Lit.int .u8 x).wf = true) → ∃ k, laws_FnLengths.f k l0 = some true
theorem laws_FnLengths.walk (P : laws_FnLengths.Pure) (a0 : Option Addr) (len0 cap0 : Nat) (z0 : List Int) (w : World) (w0 : (a0 = none ∧ len0 = 0 ∧ cap0 = 0 ∧ z0 = []) ∨ ∃ x, a0 = some x ∧ len0 ≤ cap0 ∧ cap0 ≤ maxLen ∧ z0.length = cap0 ∧ (∀ i, i < z0.length → w.cell? (x.add i) = some (.int .u8 (z0.getD i 0))) ∧ ∀ n ∈ z0, (Lit.int .u8 n).wf = true) (y0 : len0 * 1 ≤ 140737488351232) (hG : Go.Proofs.YtodlnnoekccmmaaGreatDoor.LibW.GL w) :
  Calls Tryz.prog 3 #[.slice a0 len0 cap0] w fun e w' => e = .returned (.bool true) ∧ Below w.heap.size w w' := by
 obtain ⟨l0, rfl, hr0, hm0, hw0, hc0⟩ := ReadsInt.ofRowC w0
 obtain ⟨k, h⟩ := P l0 hm0 y0 hw0
 refine (laws_FnLengths.calls k _ _ l0 true w (Kd.C_of_reads (d := (0 : Int)) (h1 := fun _ => rfl) hr0) hc0 h).mono ?_
 rintro e w' ⟨rfl, hd⟩
 exact ⟨rfl, hd⟩
end Go.Proofs.YtodlnnoekccmmaaGreatDoor.QFnLengths
