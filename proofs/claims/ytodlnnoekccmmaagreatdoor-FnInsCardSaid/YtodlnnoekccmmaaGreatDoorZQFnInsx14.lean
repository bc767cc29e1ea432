/- The machine's side of a law, written by a program of this session for this claim. -/
import Derived.Test.YtodlnnoekccmmaaGreatDoorZQq
import Derived.Test.YtodlnnoekccmmaaGreatDoorZQFnInsx0
import Derived.Test.YtodlnnoekccmmaaGreatDoorZQFnInsx1
import Derived.Test.YtodlnnoekccmmaaGreatDoorZQFnInsx2
import Derived.Test.YtodlnnoekccmmaaGreatDoorZQFnInsx7
import Derived.Test.YtodlnnoekccmmaaGreatDoorZQFnInsx12
import Derived.Test.YtodlnnoekccmmaaGreatDoorZQFnInsx13
namespace Go.Proofs.YtodlnnoekccmmaaGreatDoor.QFnIns
open Go.Proofs.YtodlnnoekccmmaaGreatDoor.Qq
open Go.RowKit Go.Proofs.YtodlnnoekccmmaaGreatDoor.LibX Go.Proofs.YtodlnnoekccmmaaGreatDoor.LibE Go.Proofs.YtodlnnoekccmmaaGreatDoorW.PrintWords Go.Proofs.YtodlnnoekccmmaaGreatDoorW.PrintLast Go.Proofs.YtodlnnoekccmmaaGreatDoorW.PrintMore
attribute [local go_sem] max2_int min2_int max_two min_two max_three min_three max_four min_four   -- for this text's walks alone
set_option maxHeartbeats 8000000
set_option maxRecDepth 100000
set_option linter.unusedVariables false
set_option linter.unusedSimpArgs false
attribute [local go_sem high] eqA30
def laws_FnIns.j0 : Nat → ByteArray → Bool → Int → Bool → Int → Option (Bool)
 | 0, _, _, _, _, _ => none
 | k + 1, x4, x31, x520000, x520001, x520002 => if x31 = true then ((spec_InsBytes.f k x520000 x520001 x520002).bind fun t524 => (if x4.toList = t524.toList then ((impl_InsOk.f k x520000 x520001 x520002).bind fun t525 => ((spec_InsOk.f k x520000 x520001 x520002).bind fun t526 => (some (t525 == t526)))) else (some false))) else ((impl_ReadIns.f k x4 0).bind fun bt527 => (if 2 + x4.size ≤ 9223372036854775807 then (if ((⟨#[120, 121]⟩ : ByteArray) ++ x4).size + 1 ≤ 9223372036854775807 then ((impl_ReadIns.f k (((⟨#[120, 121]⟩ : ByteArray) ++ x4) ++ (⟨#[122]⟩ : ByteArray)) 2).bind fun bt532 => (if 0 ≤ (wrap64 ((x4.size : Int) - 1)) then (if (wrap64 ((x4.size : Int) - 1)) ≤ (x4.size : Int) then ((impl_ReadIns.f k (x4.extract 0 ((wrap64 ((x4.size : Int) - 1)) : Int).toNat) 0).bind fun bt537 => (if (bt527.1 == x520000 && (bt527.2.1 == x520001 && (bt527.2.2.1 == x520002))) = true then (if bt527.2.2.2 = (x4.size : Int) then (if (bt532.1 == x520000 && (bt532.2.1 == x520001 && (bt532.2.2.1 == x520002))) = true then (if bt532.2.2.2 = bt527.2.2.2 then (if bt537.2.2.2 = 0 then ((impl_LengthOf.f k x520000 x520001).bind fun t542 => (some (t542 == bt527.2.2.2))) else (some false)) else (some false)) else (some false)) else (some false)) else (some false))) else (none)) else (none))) else (none)) else (none)))
def laws_FnIns.f (k : Nat) (l0 : List Int) : Option (Bool) := (laws_big.f l0).bind fun t515 => (if t515 = true then (some true) else ((spec_DrawInsBytes.f k l0).bind fun bt516 => ((impl_InsBytes.f k bt516.1 bt516.2.1 bt516.2.2).bind fun t520 => ((spec_InsBytes.f k bt516.1 bt516.2.1 bt516.2.2).bind fun t521 => (if t520.toList = t521.toList then ((impl_InsOk.f k bt516.1 bt516.2.1 bt516.2.2).bind fun t522 => ((spec_InsOk.f k bt516.1 bt516.2.1 bt516.2.2).bind fun t523 => (if (t522 != t523) = true then (laws_FnIns.j0 k t520 true bt516.1 bt516.2.1 bt516.2.2) else (laws_FnIns.j0 k t520 (t520.toList == ([] : List UInt8)) bt516.1 bt516.2.1 bt516.2.2)))) else (laws_FnIns.j0 k t520 true bt516.1 bt516.2.1 bt516.2.2))))))
theorem laws_FnIns.mono_l : ∀ k, (∀ y0 y1 y2 y3 y4, LeO (laws_FnIns.j0 k y0 y1 y2 y3 y4) (laws_FnIns.j0 (k + 1) y0 y1 y2 y3 y4))
 | 0 => fun _ _ _ _ _ r h => by simp [laws_FnIns.j0] at h
 | k + 1 => by
  have ih0 := laws_FnIns.mono_l k
  ·intro y0 y1 y2 y3 y4
   unfold laws_FnIns.j0
   repeat' first
   | (with_reducible first | exact ih0 _ _ _ _ _ | exact impl_InsBytes.mono _ _ _ _ | exact impl_InsOk.mono _ _ _ _ | exact impl_LengthOf.mono _ _ _ | exact impl_ReadIns.mono _ _ _ | exact spec_DrawInsBytes.mono _ _ | exact spec_InsBytes.mono _ _ _ _ | exact spec_InsOk.mono _ _ _ _ | exact LeO.refl _ | exact LeO.none _ | refine LeO.ite ?_ ?_ | refine LeO.bind ?_ (fun _ => ?_))
   | exact ih0 _ _ _ _ _
   | exact impl_InsBytes.mono _ _ _ _
   | exact impl_InsOk.mono _ _ _ _
   | exact impl_LengthOf.mono _ _ _
   | exact impl_ReadIns.mono _ _ _
   | exact spec_DrawInsBytes.mono _ _
   | exact spec_InsBytes.mono _ _ _ _
   | exact spec_InsOk.mono _ _ _ _
   | exact LeO.none _
   | refine LeO.ite ?_ ?_
   | refine LeO.bind ?_ (fun _ => ?_)
theorem laws_FnIns.mono : ∀ a0 k, LeO (laws_FnIns.f k a0) (laws_FnIns.f (k + 1) a0) := by
 intro a0 k
 have ih0 := laws_FnIns.mono_l k
 unfold laws_FnIns.f
 repeat' first
   | (with_reducible first | exact ih0 _ _ _ _ _ | exact impl_InsBytes.mono _ _ _ _ | exact impl_InsOk.mono _ _ _ _ | exact impl_LengthOf.mono _ _ _ | exact impl_ReadIns.mono _ _ _ | exact spec_DrawInsBytes.mono _ _ | exact spec_InsBytes.mono _ _ _ _ | exact spec_InsOk.mono _ _ _ _ | exact LeO.refl _ | exact LeO.none _ | refine LeO.ite ?_ ?_ | refine LeO.bind ?_ (fun _ => ?_))
   | exact ih0 _ _ _ _ _
   | exact impl_InsBytes.mono _ _ _ _
   | exact impl_InsOk.mono _ _ _ _
   | exact impl_LengthOf.mono _ _ _
   | exact impl_ReadIns.mono _ _ _
   | exact spec_DrawInsBytes.mono _ _
   | exact spec_InsBytes.mono _ _ _ _
   | exact spec_InsOk.mono _ _ _ _
   | exact LeO.none _
   | refine LeO.ite ?_ ?_
   | refine LeO.bind ?_ (fun _ => ?_)
def laws_FnIns.T5 : Bool × List (List Nat × List Nat) := (true, [([], []), ([], []), ([1], [1]), ([0, 2], [0, 2]), ([3, 2], [3]), ([4], [4]), ([5, 4, 4], [4, 5]), ([4], [4]), ([7, 6, 4], [4, 7]), ([6, 8, 4], [4, 6, 8]), ([4, 9], [4, 9]), ([10, 8], [10]), ([11], [11]), ([12, 11], [11, 12]), ([11, 13], [11, 13])])
def laws_FnIns.B5 : List Nat := [0, 0, 2, 7, 15, 31, 63, 31, 255, 511, 1023, 2047, 4095, 8191, 16383]
theorem laws_FnIns.tab5 : rtab .any (opsOf Tryz.f4 5) = laws_FnIns.T5 := by kernel_rfl
theorem laws_FnIns.bits5 : waitsOk laws_FnIns.T5.2 laws_FnIns.B5 = true := by kernel_rfl
def laws_FnIns.T6 : Bool × List (List Nat × List Nat) := (true, [([], []), ([], []), ([1], [1]), ([0, 2], [0, 2]), ([3, 2], [3]), ([4], [4]), ([5, 4, 4], [4, 5]), ([4], [4]), ([7, 6, 4], [4, 7]), ([6, 8, 4], [4, 6, 8]), ([4, 9], [4, 9]), ([10, 8, 0, 1, 2, 3, 4, 5, 6, 7, 8, 9, 10], [10])])
def laws_FnIns.B6 : List Nat := [0, 0, 2, 7, 15, 31, 63, 31, 255, 511, 1023, 2047]
theorem laws_FnIns.tab6 : rtab .any (opsOf Tryz.f4 6) = laws_FnIns.T6 := by kernel_rfl
theorem laws_FnIns.bits6 : waitsOk laws_FnIns.T6.2 laws_FnIns.B6 = true := by kernel_rfl
theorem laws_FnIns.calls (k : Nat) (A0 : Option Addr) (c0 : Nat) (l0 : List Int) (r : Bool) (w : World) (hr0 : Kd.C (Kd.int .u8) w A0 l0.length l0) (hc0 : l0.length ≤ c0) (h : laws_FnIns.f k l0 = some r) (hG : Go.Proofs.YtodlnnoekccmmaaGreatDoor.LibW.GL w := by first | exact hG | exact hG.below q6_ | exact hG.drewN _) :
  Calls Tryz.prog 4 #[.slice A0 l0.length c0] w fun e w' => e = .returned (.bool r) ∧ Below w.heap.size w w' := by
 have hu30 := Tryz.underlying30
 have HR0 := Aside0.mk hr0
 have HC0 := Aside0.mk hc0
 clear hr0 hc0
 have HB := Aside0.mk (Below.refl w.heap.size w)
 have H : ((laws_big.f l0).bind fun t515 => (if t515 = true then (some true) else ((spec_DrawInsBytes.f k l0).bind fun bt516 => ((impl_InsBytes.f k bt516.1 bt516.2.1 bt516.2.2).bind fun t520 => ((spec_InsBytes.f k bt516.1 bt516.2.1 bt516.2.2).bind fun t521 => (if t520.toList = t521.toList then ((impl_InsOk.f k bt516.1 bt516.2.1 bt516.2.2).bind fun t522 => ((spec_InsOk.f k bt516.1 bt516.2.1 bt516.2.2).bind fun t523 => (if (t522 != t523) = true then (laws_FnIns.j0 k t520 true bt516.1 bt516.2.1 bt516.2.2) else (laws_FnIns.j0 k t520 (t520.toList == ([] : List UInt8)) bt516.1 bt516.2.1 bt516.2.2)))) else (laws_FnIns.j0 k t520 true bt516.1 bt516.2.1 bt516.2.2))))))) = some r := h
 clear h
 replace H := Option.bind_eq_some_iff.mp H
 obtain ⟨t515, A20, H⟩ := H
 have A2 := Aside0.mk A20
 clear A20
 by_cases c3 : t515 = true
 ·subst c3
  replace H : (some true) = some r := by rw [if_pos rfl] at H; exact H
  obtain rfl := Option.some.inj H
  go_enter Tryz.func4, Tryz.ntmps4
  go_wp2_with (first | ((with_reducible refine gate_callee (f := 11) rfl ?_); refine goesL_ (some 12) rfl rfl Tryz.func11 (by kernel_rfl) rfl #[.slice A0 l0.length c0] rfl q56_ ?_; (with_reducible refine (laws_big.calls _ _ l0 true _ ?side1 ?side2 A2.out).mono ?_); (case side1 => exact q112_); (case side2 => exact HC0.out); rintro e w' ⟨rfl, ⟨nd, rfl⟩⟩; refine ⟨_, rfl, ?_⟩))
  go_ret
  exact ⟨q59_, q57_⟩
 ·replace c3 := Bool.eq_false_iff.mpr c3
  subst c3
  replace H : ((spec_DrawInsBytes.f k l0).bind fun bt516 => ((impl_InsBytes.f k bt516.1 bt516.2.1 bt516.2.2).bind fun t520 => ((spec_InsBytes.f k bt516.1 bt516.2.1 bt516.2.2).bind fun t521 => (if t520.toList = t521.toList then ((impl_InsOk.f k bt516.1 bt516.2.1 bt516.2.2).bind fun t522 => ((spec_InsOk.f k bt516.1 bt516.2.1 bt516.2.2).bind fun t523 => (if (t522 != t523) = true then (laws_FnIns.j0 k t520 true bt516.1 bt516.2.1 bt516.2.2) else (laws_FnIns.j0 k t520 (t520.toList == ([] : List UInt8)) bt516.1 bt516.2.1 bt516.2.2)))) else (laws_FnIns.j0 k t520 true bt516.1 bt516.2.1 bt516.2.2))))) = some r := by rw [if_neg (show ¬ (false = true) by decide)] at H; exact H
  replace H := Option.bind_eq_some_iff.mp H
  obtain ⟨⟨t516, t517, t518⟩, A40, H⟩ := H
  replace H : ((impl_InsBytes.f k t516 t517 t518).bind fun t520 => ((spec_InsBytes.f k t516 t517 t518).bind fun t521 => (if t520.toList = t521.toList then ((impl_InsOk.f k t516 t517 t518).bind fun t522 => ((spec_InsOk.f k t516 t517 t518).bind fun t523 => (if (t522 != t523) = true then (laws_FnIns.j0 k t520 true t516 t517 t518) else (laws_FnIns.j0 k t520 (t520.toList == ([] : List UInt8)) t516 t517 t518)))) else (laws_FnIns.j0 k t520 true t516 t517 t518)))) = some r := H
  have A4 := Aside0.mk A40
  clear A40
  replace H := Option.bind_eq_some_iff.mp H
  obtain ⟨t520, A50, H⟩ := H
  have A5 := Aside0.mk A50
  clear A50
  have HC6 := Aside0.mk H
  clear H
  go_enter Tryz.func4, Tryz.ntmps4
  go_upto_region 5 with (first | ((with_reducible refine gate_callee (f := 11) rfl ?_); refine goesL_ (some 12) rfl rfl Tryz.func11 (by kernel_rfl) rfl #[.slice A0 l0.length c0] rfl q56_ ?_; (with_reducible refine (laws_big.calls _ _ l0 false _ ?side1 ?side2 A2.out).mono ?_); (case side1 => exact q112_); (case side2 => exact HC0.out); rintro e w' ⟨rfl, ⟨nd, rfl⟩⟩; refine ⟨_, rfl, ?_⟩) | ((with_reducible refine gate_callee (f := 18) rfl ?_); refine goesL_ (some 14) rfl rfl Tryz.func18 (by kernel_rfl) rfl #[.slice A0 l0.length c0] rfl q56_ ?_; (with_reducible refine (spec_DrawInsBytes.calls k _ _ l0 t516 t517 t518 _ ?side1 ?side2 A4.out).mono ?_); (case side1 => exact q112_); (case side2 => exact HC0.out); rintro e w7 ⟨rfl, hb⟩; refine ⟨_, rfl, ?_⟩; replace HB := Aside0.mk (below_step q57_ hb); (try clear hb)) | ((with_reducible refine gate_dst (N := 3) rfl ?_); (try (refine gate_guard (by rfl) ?_; dsimp only)); refine box_event ?hg (N := 3) ?hd (cs := #[.int .i64 0, .bool false, .int .i64 0]) (t := 30) ?hr ?_; (case hd => rfl); (case hg => rfl); (case hr => exact q114_); intro gb519 hg w8 hbox hb; have n0_ := Aside0.mk (below_step q57_ hb); have n1_ := Aside0.mk (hbox); have n2_ := Aside0.mk ((q43_ : w.heap.size ≤ gb519)); have n3_ := Aside0.mk ((q43_ : w.heap.size ≤ gb519)); clear HB; have HB := n0_; have BK519 := n1_; have GW519 := n2_; have GE519 := n3_; clear n0_ n1_ n2_ n3_; clear hb hbox hg; have hcz9_0 : w8.cell? ⟨gb519, 0, none⟩ = some (.int .i64 0) := (blk_cell BK519.out 0).trans rfl; have hcz9_1 : w8.cell? ⟨gb519, 1, none⟩ = some (.bool false) := (blk_cell BK519.out 1).trans rfl; have hcz9_2 : w8.cell? ⟨gb519, 2, none⟩ = some (.int .i64 0) := (blk_cell BK519.out 2).trans rfl; have hfz9_0 := blk_frozen BK519.out 0; have hfz9_1 := blk_frozen BK519.out 1; have hfz9_2 := blk_frozen BK519.out 2) | ((with_reducible refine gate_callee (f := 17) rfl ?_); refine goesL_ (some 16) rfl rfl Tryz.func17 (by kernel_rfl) rfl #[.agg #[.int .i64 t516, .bool t517, .int .i64 t518]] rfl q56_ ?_; (with_reducible refine (impl_InsBytes.calls k t516 t517 t518 t520 _ A5.out).mono ?_); rintro e w10 ⟨rfl, hb⟩; refine ⟨_, rfl, ?_⟩; have n0_ := Aside0.mk (blk_below (g := gb519) (o := .cells #[.int .i64 t516, .bool t517, .int .i64 t518] 30 (0, 0)) (by (with_reducible repeat (first | refine blk_drewN ?_ _ | refine blk_drew ?_ | refine blk_alloc ?_ _)); refine blk_put (cs := #[.int .i64 t516, .bool t517, .int .i64 0]) ?_ 2 _ rfl; (with_reducible repeat (first | refine blk_drewN ?_ _ | refine blk_drew ?_ | refine blk_alloc ?_ _)); refine blk_put (cs := #[.int .i64 t516, .bool false, .int .i64 0]) ?_ 1 _ rfl; (with_reducible repeat (first | refine blk_drewN ?_ _ | refine blk_drew ?_ | refine blk_alloc ?_ _)); refine blk_put (cs := #[.int .i64 0, .bool false, .int .i64 0]) ?_ 0 _ rfl; (with_reducible repeat (first | refine blk_drewN ?_ _ | refine blk_drew ?_ | refine blk_alloc ?_ _)); exact BK519.out) hb); have n1_ := Aside0.mk (below_step q50_ hb); clear BK519; clear HB; have BK519 := n0_; have HB := n1_; clear n0_ n1_; (try clear hb)))
  (try simp only [Act.put, List.setIfInBounds_toArray, List.set_cons_zero, List.set_cons_succ])
  go_cut [31] (fun v31 wc => ∃ (kq : Nat) (x31_5 : Bool), v31 = .bool x31_5 ∧ Aside0 (laws_FnIns.j0 kq t520 x31_5 t516 t517 t518 = some r) ∧ Aside0 (kq ≤ k) ∧ Aside0 (wc.heap[gb519]? = some (.cells #[.int .i64 t516, .bool t517, .int .i64 t518] 30 (0, 0))) ∧ Aside0 (Below w.heap.size w wc))
  case first =>
   have H := HC6.out
   clear HC6
   replace H := Option.bind_eq_some_iff.mp H
   obtain ⟨t521, A110, H⟩ := H
   have A11 := Aside0.mk A110
   clear A110
   by_cases c12 : t520.toList = t521.toList
   ·rw [if_pos c12] at H
    have c12b0 : (t520.toList == t521.toList) = true := beq_iff_eq.mpr c12
    have c12b1 : (t520.toList != t521.toList) = false := bne_eq_false_iff_eq.mpr c12
    clear c12
    (first | rw [c12b0] | (simp only [i64_w, i32_w]; rw [c12b0]) | skip)
    replace H := Option.bind_eq_some_iff.mp H
    obtain ⟨t522, A130, H⟩ := H
    have A13 := Aside0.mk A130
    clear A130
    replace H := Option.bind_eq_some_iff.mp H
    obtain ⟨t523, A140, H⟩ := H
    have A14 := Aside0.mk A140
    clear A140
    by_cases c15 : (t522 != t523) = true
    ·rw [if_pos c15] at H
     have c15b0 : (t522 != t523) = true := c15
     (try (have c15b1 : decide (t522 = t523) = false := by simpa using c15))
     (try (have c15b2 : (t522 == t523) = false := by simpa using c15))
     (try (have c15b3 : ¬ (t522 = t523) := by simpa using c15))
     clear c15
     have H' := Aside0.mk H
     clear H
     try go_wp2
     have n0_ := Aside0.mk (blk_drew BK519.out)
     have n1_ := Aside0.mk (below_drew1 HB.out)
     clear BK519
     clear HB
     have BK519 := n0_
     have HB := n1_
     clear n0_ n1_
     refine start_ (n := 15) (S := fun w' => w'.cell? ⟨gb519, 0, none⟩ = some (.int .i64 t516) ∧ w'.cell? ⟨gb519, 1, none⟩ = some (.bool t517) ∧ w'.cell? ⟨gb519, 2, none⟩ = some (.int .i64 t518)) (ds := []) #[false, false, false, false, false, false, false, false, false, false, false, false, false, false, false] (by kernel_rfl) rfl rfl ⟨(blk_cell BK519.out 0).trans rfl, (blk_cell BK519.out 1).trans rfl, (blk_cell BK519.out 2).trans rfl⟩ (fun hHeld => ?_); refine with_tabW laws_FnIns.tab5 laws_FnIns.bits5 (fun HT_ HW_ => ?_)
     generalize w10.drew = w16 at BK519 HB hHeld ⊢
     refine pure_ (i := 0) (N := some 17) (v := ?_) (a' := ?_) #[true, false, false, false, false, false, false, false, false, false, false, false, false, false, false] rfl rfl (any_of HT_.out (by kernel_rfl)) (fun _ _ _ h => h) (Or.inl ⟨by rfl, ?_⟩) ?_ ?_
     rotate_left
     ·intro w'
      go_simp
      with_reducible rfl
     rotate_left
     ·simp only [Act.put, List.setIfInBounds_toArray, List.set_cons_zero, List.set_cons_succ, i64_w, i32_w]
      rfl
     refine take_ (i := 1) (N := some 18) (v := ?_) (a' := ?_) #[true, true, false, false, false, false, false, false, false, false, false, false, false, false, false] rfl rfl (take_ofW HT_.out HW_.out (by kernel_rfl)) (fun _ _ _ h => h) (Or.inl ⟨by rfl, ?_⟩) hHeld ?_ ?_
     rotate_left
     ·rintro w' ⟨s0, s1, s2⟩
      go_simp
      with_reducible rfl
     rotate_left
     ·simp only [Act.put, List.setIfInBounds_toArray, List.set_cons_zero, List.set_cons_succ, i64_w, i32_w]
      rfl
     refine one_ (i := 2) (N := some 19) #[true, true, true, false, false, false, false, false, false, false, false, false, false, false, false] rfl rfl (one_of HT_.out (by kernel_rfl)) (by decide) (fun K hK => ?_)
     refine goes_ Tryz.func19 (by kernel_rfl) rfl #[.agg #[.int .i64 t516, .bool t517, .int .i64 t518]] (by rfl) rfl rfl q56_ ?_
     with_reducible refine (spec_InsBytes.calls k t516 t517 t518 t521 _ A11.out).mono ?_
     rintro e w17 ⟨rfl, hb⟩
     refine ⟨_, rfl, ?_⟩
     have n0_ := Aside0.mk (blk_below (g := gb519) (o := .cells #[.int .i64 t516, .bool t517, .int .i64 t518] 30 (0, 0)) q69_ hb)
     have n1_ := Aside0.mk (below_step q50_ hb)
     clear BK519
     clear HB
     have BK519 := n0_
     have HB := n1_
     clear n0_ n1_
     (try clear hb)
     (try clear hb2)
     (try clear hk)
     (try clear hi)
     refine hK.out _ _ ⟨(blk_cell BK519.out 0).trans rfl, (blk_cell BK519.out 1).trans rfl, (blk_cell BK519.out 2).trans rfl⟩ (fun hHeld => ?_)
     clear hK K
     refine norm_ (a' := ?_) ?_ ?_
     rotate_left
     ·show Act.put _ (some 19) _ = _
      simp only [Act.put, List.setIfInBounds_toArray, List.set_cons_zero, List.set_cons_succ, i64_w, i32_w]
      rfl
     refine pure_ (i := 3) (N := some 20) (v := ?_) (a' := ?_) #[true, true, true, true, false, false, false, false, false, false, false, false, false, false, false] rfl rfl (any_of HT_.out (by kernel_rfl)) (fun _ _ _ h => h) (Or.inl ⟨by rfl, ?_⟩) ?_ ?_
     rotate_left
     ·intro w'
      go_simp
      with_reducible rfl
     rotate_left
     ·simp only [Act.put, List.setIfInBounds_toArray, List.set_cons_zero, List.set_cons_succ, i64_w, i32_w]
      rfl
     refine pure_ (i := 4) (N := some 21) (v := ?_) (a' := ?_) #[true, true, true, true, true, false, false, false, false, false, false, false, false, false, false] rfl rfl (any_of HT_.out (by kernel_rfl)) (fun _ _ _ h => h) (Or.inl ⟨by rfl, ?_⟩) ?_ ?_
     rotate_left
     ·intro w'
      go_simp
      with_reducible rfl
     rotate_left
     ·simp only [Act.put, List.setIfInBounds_toArray, List.set_cons_zero, List.set_cons_succ, i64_w, i32_w]
      rfl
     refine take_ (i := 5) (N := some 22) (v := ?_) (a' := ?_) #[true, true, true, true, true, true, false, false, false, false, false, false, false, false, false] rfl rfl (take_ofW HT_.out HW_.out (by kernel_rfl)) (fun _ _ _ h => h) (Or.inl ⟨by rfl, ?_⟩) hHeld ?_ ?_
     rotate_left
     ·rintro w' ⟨s0, s1, s2⟩
      go_simp
      with_reducible rfl
     rotate_left
     ·simp only [Act.put, List.setIfInBounds_toArray, List.set_cons_zero, List.set_cons_succ, i64_w, i32_w]
      rfl
     refine take_ (i := 7) (N := some 24) (v := ?_) (a' := ?_) #[true, true, true, true, true, true, false, true, false, false, false, false, false, false, false] rfl rfl (take_ofW HT_.out HW_.out (by kernel_rfl)) (fun _ _ _ h => h) (Or.inl ⟨by rfl, ?_⟩) hHeld ?_ ?_
     rotate_left
     ·rintro w' ⟨s0, s1, s2⟩
      go_simp
      with_reducible rfl
     rotate_left
     ·simp only [Act.put, List.setIfInBounds_toArray, List.set_cons_zero, List.set_cons_succ, i64_w, i32_w]
      rfl
     refine one_ (i := 6) (N := some 23) #[true, true, true, true, true, true, true, true, false, false, false, false, false, false, false] rfl rfl (one_of HT_.out (by kernel_rfl)) (by decide) (fun K hK => ?_)
     refine goes_ Tryz.func20 (by kernel_rfl) rfl #[.agg #[.int .i64 t516, .bool t517, .int .i64 t518]] (by rfl) rfl rfl q56_ ?_
     with_reducible refine (impl_InsOk.calls k t516 t517 t518 t522 _ A13.out).mono ?_
     rintro e w18 ⟨rfl, hb⟩
     refine ⟨_, rfl, ?_⟩
     have n0_ := Aside0.mk (blk_below (g := gb519) (o := .cells #[.int .i64 t516, .bool t517, .int .i64 t518] 30 (0, 0)) q69_ hb)
     have n1_ := Aside0.mk (below_step q50_ hb)
     clear BK519
     clear HB
     have BK519 := n0_
     have HB := n1_
     clear n0_ n1_
     (try clear hb)
     (try clear hb2)
     (try clear hk)
     (try clear hi)
     refine hK.out _ _ ⟨(blk_cell BK519.out 0).trans rfl, (blk_cell BK519.out 1).trans rfl, (blk_cell BK519.out 2).trans rfl⟩ (fun hHeld => ?_)
     clear hK K
     refine norm_ (a' := ?_) ?_ ?_
     rotate_left
     ·show Act.put _ (some 23) _ = _
      simp only [Act.put, List.setIfInBounds_toArray, List.set_cons_zero, List.set_cons_succ, i64_w, i32_w]
      rfl
     refine one_ (i := 8) (N := some 25) #[true, true, true, true, true, true, true, true, true, false, false, false, false, false, false] rfl rfl (one_of HT_.out (by kernel_rfl)) (by decide) (fun K hK => ?_)
     refine goes_ Tryz.func21 (by kernel_rfl) rfl #[.agg #[.int .i64 t516, .bool t517, .int .i64 t518]] (by rfl) rfl rfl q56_ ?_
     with_reducible refine (spec_InsOk.calls k t516 t517 t518 t523 _ A14.out).mono ?_
     rintro e w19 ⟨rfl, hb⟩
     refine ⟨_, rfl, ?_⟩
     have n0_ := Aside0.mk (blk_below (g := gb519) (o := .cells #[.int .i64 t516, .bool t517, .int .i64 t518] 30 (0, 0)) q69_ hb)
     have n1_ := Aside0.mk (below_step q50_ hb)
     clear BK519
     clear HB
     have BK519 := n0_
     have HB := n1_
     clear n0_ n1_
     (try clear hb)
     (try clear hb2)
     (try clear hk)
     (try clear hi)
     refine hK.out _ _ ⟨(blk_cell BK519.out 0).trans rfl, (blk_cell BK519.out 1).trans rfl, (blk_cell BK519.out 2).trans rfl⟩ (fun hHeld => ?_)
     clear hK K
     refine norm_ (a' := ?_) ?_ ?_
     rotate_left
     ·show Act.put _ (some 25) _ = _
      simp only [Act.put, List.setIfInBounds_toArray, List.set_cons_zero, List.set_cons_succ, i64_w, i32_w]
      rfl
     refine pure_ (i := 9) (N := some 26) (v := ?_) (a' := ?_) #[true, true, true, true, true, true, true, true, true, true, false, false, false, false, false] rfl rfl (any_of HT_.out (by kernel_rfl)) (fun _ _ _ h => h) (Or.inl ⟨by rfl, ?_⟩) ?_ ?_
     rotate_left
     ·intro w'
      go_simp
      with_reducible rfl
     rotate_left
     ·simp only [Act.put, List.setIfInBounds_toArray, List.set_cons_zero, List.set_cons_succ, i64_w, i32_w]
      rfl
     refine pure_ (i := 10) (N := some 27) (v := ?_) (a' := ?_) #[true, true, true, true, true, true, true, true, true, true, true, false, false, false, false] rfl rfl (any_of HT_.out (by kernel_rfl)) (fun _ _ _ h => h) (Or.inl ⟨by rfl, ?_⟩) ?_ ?_
     rotate_left
     ·intro w'
      go_simp
      with_reducible rfl
     rotate_left
     ·simp only [Act.put, List.setIfInBounds_toArray, List.set_cons_zero, List.set_cons_succ, i64_w, i32_w]
      rfl
     refine pure_ (i := 11) (N := some 28) (v := ?_) (a' := ?_) #[true, true, true, true, true, true, true, true, true, true, true, true, false, false, false] rfl rfl (any_of HT_.out (by kernel_rfl)) (fun _ _ _ h => h) (Or.inl ⟨by rfl, ?_⟩) ?_ ?_
     rotate_left
     ·intro w'
      go_simp
      with_reducible rfl
     rotate_left
     ·simp only [Act.put, List.setIfInBounds_toArray, List.set_cons_zero, List.set_cons_succ, i64_w, i32_w]
      rfl
     refine pure_ (i := 12) (N := some 29) (v := undef) (a' := ?_) #[true, true, true, true, true, true, true, true, true, true, true, true, true, false, false] rfl rfl (any_of HT_.out (by kernel_rfl)) (fun _ _ _ h => h) (Or.inr ⟨by rfl, rfl⟩) ?_ ?_
     rotate_left
     ·simp only [Act.put, List.setIfInBounds_toArray, List.set_cons_zero, List.set_cons_succ, i64_w, i32_w]
      rfl
     refine pure_ (i := 13) (N := some 30) (v := undef) (a' := ?_) #[true, true, true, true, true, true, true, true, true, true, true, true, true, true, false] rfl rfl (any_of HT_.out (by kernel_rfl)) (fun _ _ _ h => h) (Or.inr ⟨by rfl, rfl⟩) ?_ ?_
     rotate_left
     ·simp only [Act.put, List.setIfInBounds_toArray, List.set_cons_zero, List.set_cons_succ, i64_w, i32_w]
      rfl
     refine pure_ (i := 14) (N := some 31) (v := ?_) (a' := ?_) #[true, true, true, true, true, true, true, true, true, true, true, true, true, true, true] rfl rfl (any_of HT_.out (by kernel_rfl)) (fun _ _ _ h => h) (Or.inl ⟨by rfl, ?_⟩) ?_ ?_
     rotate_left
     ·intro w'
      go_simp
      with_reducible rfl
     rotate_left
     ·simp only [Act.put, List.setIfInBounds_toArray, List.set_cons_zero, List.set_cons_succ, i64_w, i32_w]
      rfl
     refine done_ (done_of HT_.out (by kernel_rfl)) ?_
     try go_wp2
     go_meet
     case rel => exact ⟨_, (true), q73_, H', ⟨q99_⟩, ⟨q69_⟩, ⟨q50_⟩⟩
    ·rw [if_neg c15] at H
     have c15b0 : (t522 != t523) = false := by simpa using c15
     (try (have c15b1 : decide (t522 = t523) = true := by simpa using c15))
     (try (have c15b2 : (t522 == t523) = true := by simpa using c15))
     clear c15
     have H' := Aside0.mk H
     clear H
     try go_wp2
     have n0_ := Aside0.mk (blk_drew BK519.out)
     have n1_ := Aside0.mk (below_drew1 HB.out)
     clear BK519
     clear HB
     have BK519 := n0_
     have HB := n1_
     clear n0_ n1_
     refine start_ (n := 15) (S := fun w' => w'.cell? ⟨gb519, 0, none⟩ = some (.int .i64 t516) ∧ w'.cell? ⟨gb519, 1, none⟩ = some (.bool t517) ∧ w'.cell? ⟨gb519, 2, none⟩ = some (.int .i64 t518)) (ds := []) #[false, false, false, false, false, false, false, false, false, false, false, false, false, false, false] (by kernel_rfl) rfl rfl ⟨(blk_cell BK519.out 0).trans rfl, (blk_cell BK519.out 1).trans rfl, (blk_cell BK519.out 2).trans rfl⟩ (fun hHeld => ?_); refine with_tabW laws_FnIns.tab5 laws_FnIns.bits5 (fun HT_ HW_ => ?_)
     generalize w10.drew = w20 at BK519 HB hHeld ⊢
     refine pure_ (i := 0) (N := some 17) (v := ?_) (a' := ?_) #[true, false, false, false, false, false, false, false, false, false, false, false, false, false, false] rfl rfl (any_of HT_.out (by kernel_rfl)) (fun _ _ _ h => h) (Or.inl ⟨by rfl, ?_⟩) ?_ ?_
     rotate_left
     ·intro w'
      go_simp
      with_reducible rfl
     rotate_left
     ·simp only [Act.put, List.setIfInBounds_toArray, List.set_cons_zero, List.set_cons_succ, i64_w, i32_w]
      rfl
     refine take_ (i := 1) (N := some 18) (v := ?_) (a' := ?_) #[true, true, false, false, false, false, false, false, false, false, false, false, false, false, false] rfl rfl (take_ofW HT_.out HW_.out (by kernel_rfl)) (fun _ _ _ h => h) (Or.inl ⟨by rfl, ?_⟩) hHeld ?_ ?_
     rotate_left
     ·rintro w' ⟨s0, s1, s2⟩
      go_simp
      with_reducible rfl
     rotate_left
     ·simp only [Act.put, List.setIfInBounds_toArray, List.set_cons_zero, List.set_cons_succ, i64_w, i32_w]
      rfl
     refine one_ (i := 2) (N := some 19) #[true, true, true, false, false, false, false, false, false, false, false, false, false, false, false] rfl rfl (one_of HT_.out (by kernel_rfl)) (by decide) (fun K hK => ?_)
     refine goes_ Tryz.func19 (by kernel_rfl) rfl #[.agg #[.int .i64 t516, .bool t517, .int .i64 t518]] (by rfl) rfl rfl q56_ ?_
     with_reducible refine (spec_InsBytes.calls k t516 t517 t518 t521 _ A11.out).mono ?_
     rintro e w21 ⟨rfl, hb⟩
     refine ⟨_, rfl, ?_⟩
     have n0_ := Aside0.mk (blk_below (g := gb519) (o := .cells #[.int .i64 t516, .bool t517, .int .i64 t518] 30 (0, 0)) q69_ hb)
     have n1_ := Aside0.mk (below_step q50_ hb)
     clear BK519
     clear HB
     have BK519 := n0_
     have HB := n1_
     clear n0_ n1_
     (try clear hb)
     (try clear hb2)
     (try clear hk)
     (try clear hi)
     refine hK.out _ _ ⟨(blk_cell BK519.out 0).trans rfl, (blk_cell BK519.out 1).trans rfl, (blk_cell BK519.out 2).trans rfl⟩ (fun hHeld => ?_)
     clear hK K
     refine norm_ (a' := ?_) ?_ ?_
     rotate_left
     ·show Act.put _ (some 19) _ = _
      simp only [Act.put, List.setIfInBounds_toArray, List.set_cons_zero, List.set_cons_succ, i64_w, i32_w]
      rfl
     refine pure_ (i := 3) (N := some 20) (v := ?_) (a' := ?_) #[true, true, true, true, false, false, false, false, false, false, false, false, false, false, false] rfl rfl (any_of HT_.out (by kernel_rfl)) (fun _ _ _ h => h) (Or.inl ⟨by rfl, ?_⟩) ?_ ?_
     rotate_left
     ·intro w'
      go_simp
      with_reducible rfl
     rotate_left
     ·simp only [Act.put, List.setIfInBounds_toArray, List.set_cons_zero, List.set_cons_succ, i64_w, i32_w]
      rfl
     refine pure_ (i := 4) (N := some 21) (v := ?_) (a' := ?_) #[true, true, true, true, true, false, false, false, false, false, false, false, false, false, false] rfl rfl (any_of HT_.out (by kernel_rfl)) (fun _ _ _ h => h) (Or.inl ⟨by rfl, ?_⟩) ?_ ?_
     rotate_left
     ·intro w'
      go_simp
      with_reducible rfl
     rotate_left
     ·simp only [Act.put, List.setIfInBounds_toArray, List.set_cons_zero, List.set_cons_succ, i64_w, i32_w]
      rfl
     refine take_ (i := 5) (N := some 22) (v := ?_) (a' := ?_) #[true, true, true, true, true, true, false, false, false, false, false, false, false, false, false] rfl rfl (take_ofW HT_.out HW_.out (by kernel_rfl)) (fun _ _ _ h => h) (Or.inl ⟨by rfl, ?_⟩) hHeld ?_ ?_
     rotate_left
     ·rintro w' ⟨s0, s1, s2⟩
      go_simp
      with_reducible rfl
     rotate_left
     ·simp only [Act.put, List.setIfInBounds_toArray, List.set_cons_zero, List.set_cons_succ, i64_w, i32_w]
      rfl
     refine take_ (i := 7) (N := some 24) (v := ?_) (a' := ?_) #[true, true, true, true, true, true, false, true, false, false, false, false, false, false, false] rfl rfl (take_ofW HT_.out HW_.out (by kernel_rfl)) (fun _ _ _ h => h) (Or.inl ⟨by rfl, ?_⟩) hHeld ?_ ?_
     rotate_left
     ·rintro w' ⟨s0, s1, s2⟩
      go_simp
      with_reducible rfl
     rotate_left
     ·simp only [Act.put, List.setIfInBounds_toArray, List.set_cons_zero, List.set_cons_succ, i64_w, i32_w]
      rfl
     refine one_ (i := 6) (N := some 23) #[true, true, true, true, true, true, true, true, false, false, false, false, false, false, false] rfl rfl (one_of HT_.out (by kernel_rfl)) (by decide) (fun K hK => ?_)
     refine goes_ Tryz.func20 (by kernel_rfl) rfl #[.agg #[.int .i64 t516, .bool t517, .int .i64 t518]] (by rfl) rfl rfl q56_ ?_
     with_reducible refine (impl_InsOk.calls k t516 t517 t518 t522 _ A13.out).mono ?_
     rintro e w22 ⟨rfl, hb⟩
     refine ⟨_, rfl, ?_⟩
     have n0_ := Aside0.mk (blk_below (g := gb519) (o := .cells #[.int .i64 t516, .bool t517, .int .i64 t518] 30 (0, 0)) q69_ hb)
     have n1_ := Aside0.mk (below_step q50_ hb)
     clear BK519
     clear HB
     have BK519 := n0_
     have HB := n1_
     clear n0_ n1_
     (try clear hb)
     (try clear hb2)
     (try clear hk)
     (try clear hi)
     refine hK.out _ _ ⟨(blk_cell BK519.out 0).trans rfl, (blk_cell BK519.out 1).trans rfl, (blk_cell BK519.out 2).trans rfl⟩ (fun hHeld => ?_)
     clear hK K
     refine norm_ (a' := ?_) ?_ ?_
     rotate_left
     ·show Act.put _ (some 23) _ = _
      simp only [Act.put, List.setIfInBounds_toArray, List.set_cons_zero, List.set_cons_succ, i64_w, i32_w]
      rfl
     refine one_ (i := 8) (N := some 25) #[true, true, true, true, true, true, true, true, true, false, false, false, false, false, false] rfl rfl (one_of HT_.out (by kernel_rfl)) (by decide) (fun K hK => ?_)
     refine goes_ Tryz.func21 (by kernel_rfl) rfl #[.agg #[.int .i64 t516, .bool t517, .int .i64 t518]] (by rfl) rfl rfl q56_ ?_
     with_reducible refine (spec_InsOk.calls k t516 t517 t518 t523 _ A14.out).mono ?_
     rintro e w23 ⟨rfl, hb⟩
     refine ⟨_, rfl, ?_⟩
     have n0_ := Aside0.mk (blk_below (g := gb519) (o := .cells #[.int .i64 t516, .bool t517, .int .i64 t518] 30 (0, 0)) q69_ hb)
     have n1_ := Aside0.mk (below_step q50_ hb)
     clear BK519
     clear HB
     have BK519 := n0_
     have HB := n1_
     clear n0_ n1_
     (try clear hb)
     (try clear hb2)
     (try clear hk)
     (try clear hi)
     refine hK.out _ _ ⟨(blk_cell BK519.out 0).trans rfl, (blk_cell BK519.out 1).trans rfl, (blk_cell BK519.out 2).trans rfl⟩ (fun hHeld => ?_)
     clear hK K
     refine norm_ (a' := ?_) ?_ ?_
     rotate_left
     ·show Act.put _ (some 25) _ = _
      simp only [Act.put, List.setIfInBounds_toArray, List.set_cons_zero, List.set_cons_succ, i64_w, i32_w]
      rfl
     refine pure_ (i := 9) (N := some 26) (v := ?_) (a' := ?_) #[true, true, true, true, true, true, true, true, true, true, false, false, false, false, false] rfl rfl (any_of HT_.out (by kernel_rfl)) (fun _ _ _ h => h) (Or.inl ⟨by rfl, ?_⟩) ?_ ?_
     rotate_left
     ·intro w'
      go_simp
      with_reducible rfl
     rotate_left
     ·simp only [Act.put, List.setIfInBounds_toArray, List.set_cons_zero, List.set_cons_succ, i64_w, i32_w]
      rfl
     refine pure_ (i := 10) (N := some 27) (v := ?_) (a' := ?_) #[true, true, true, true, true, true, true, true, true, true, true, false, false, false, false] rfl rfl (any_of HT_.out (by kernel_rfl)) (fun _ _ _ h => h) (Or.inl ⟨by rfl, ?_⟩) ?_ ?_
     rotate_left
     ·intro w'
      go_simp
      with_reducible rfl
     rotate_left
     ·simp only [Act.put, List.setIfInBounds_toArray, List.set_cons_zero, List.set_cons_succ, i64_w, i32_w]
      rfl
     refine pure_ (i := 11) (N := some 28) (v := ?_) (a' := ?_) #[true, true, true, true, true, true, true, true, true, true, true, true, false, false, false] rfl rfl (any_of HT_.out (by kernel_rfl)) (fun _ _ _ h => h) (Or.inl ⟨by rfl, ?_⟩) ?_ ?_
     rotate_left
     ·intro w'
      go_simp
      with_reducible rfl
     rotate_left
     ·simp only [Act.put, List.setIfInBounds_toArray, List.set_cons_zero, List.set_cons_succ, i64_w, i32_w]
      rfl
     refine pure_ (i := 12) (N := some 29) (v := ?_) (a' := ?_) #[true, true, true, true, true, true, true, true, true, true, true, true, true, false, false] rfl rfl (any_of HT_.out (by kernel_rfl)) (fun _ _ _ h => h) (Or.inl ⟨by rfl, ?_⟩) ?_ ?_
     rotate_left
     ·intro w'
      go_simp
      with_reducible rfl
     rotate_left
     ·simp only [Act.put, List.setIfInBounds_toArray, List.set_cons_zero, List.set_cons_succ, i64_w, i32_w]
      rfl
     refine pure_ (i := 13) (N := some 30) (v := ?_) (a' := ?_) #[true, true, true, true, true, true, true, true, true, true, true, true, true, true, false] rfl rfl (any_of HT_.out (by kernel_rfl)) (fun _ _ _ h => h) (Or.inl ⟨by rfl, ?_⟩) ?_ ?_
     rotate_left
     ·intro w'
      go_simp
      with_reducible rfl
     rotate_left
     ·simp only [Act.put, List.setIfInBounds_toArray, List.set_cons_zero, List.set_cons_succ, i64_w, i32_w]
      rfl
     refine pure_ (i := 14) (N := some 31) (v := ?_) (a' := ?_) #[true, true, true, true, true, true, true, true, true, true, true, true, true, true, true] rfl rfl (any_of HT_.out (by kernel_rfl)) (fun _ _ _ h => h) (Or.inl ⟨by rfl, ?_⟩) ?_ ?_
     rotate_left
     ·intro w'
      go_simp
      with_reducible rfl
     rotate_left
     ·simp only [Act.put, List.setIfInBounds_toArray, List.set_cons_zero, List.set_cons_succ, i64_w, i32_w]
      rfl
     refine done_ (done_of HT_.out (by kernel_rfl)) ?_
     try go_wp2
     go_meet
     case rel => exact ⟨_, ((t520.toList == ([] : List UInt8))), q73_, H', ⟨q99_⟩, ⟨q69_⟩, ⟨q50_⟩⟩
   ·rw [if_neg c12] at H
    have c12b0 : (t520.toList == t521.toList) = false := beq_eq_false_iff_ne.mpr c12
    have c12b1 : (t520.toList != t521.toList) = true := bne_iff_ne.mpr c12
    (first | rw [c12b0] | (simp only [i64_w, i32_w]; rw [c12b0]) | skip)
    have H' := Aside0.mk H
    clear H
    try go_wp2
    have n0_ := Aside0.mk (blk_drew BK519.out)
    have n1_ := Aside0.mk (below_drew1 HB.out)
    clear BK519
    clear HB
    have BK519 := n0_
    have HB := n1_
    clear n0_ n1_
    refine start_ (n := 15) (S := fun w' => w'.cell? ⟨gb519, 0, none⟩ = some (.int .i64 t516) ∧ w'.cell? ⟨gb519, 1, none⟩ = some (.bool t517) ∧ w'.cell? ⟨gb519, 2, none⟩ = some (.int .i64 t518)) (ds := []) #[false, false, false, false, false, false, false, false, false, false, false, false, false, false, false] (by kernel_rfl) rfl rfl ⟨(blk_cell BK519.out 0).trans rfl, (blk_cell BK519.out 1).trans rfl, (blk_cell BK519.out 2).trans rfl⟩ (fun hHeld => ?_); refine with_tabW laws_FnIns.tab5 laws_FnIns.bits5 (fun HT_ HW_ => ?_)
    generalize w10.drew = w24 at BK519 HB hHeld ⊢
    refine pure_ (i := 0) (N := some 17) (v := ?_) (a' := ?_) #[true, false, false, false, false, false, false, false, false, false, false, false, false, false, false] rfl rfl (any_of HT_.out (by kernel_rfl)) (fun _ _ _ h => h) (Or.inl ⟨by rfl, ?_⟩) ?_ ?_
    rotate_left
    ·intro w'
     go_simp
     with_reducible rfl
    rotate_left
    ·simp only [Act.put, List.setIfInBounds_toArray, List.set_cons_zero, List.set_cons_succ, i64_w, i32_w]
     rfl
    refine take_ (i := 1) (N := some 18) (v := ?_) (a' := ?_) #[true, true, false, false, false, false, false, false, false, false, false, false, false, false, false] rfl rfl (take_ofW HT_.out HW_.out (by kernel_rfl)) (fun _ _ _ h => h) (Or.inl ⟨by rfl, ?_⟩) hHeld ?_ ?_
    rotate_left
    ·rintro w' ⟨s0, s1, s2⟩
     go_simp
     with_reducible rfl
    rotate_left
    ·simp only [Act.put, List.setIfInBounds_toArray, List.set_cons_zero, List.set_cons_succ, i64_w, i32_w]
     rfl
    refine one_ (i := 2) (N := some 19) #[true, true, true, false, false, false, false, false, false, false, false, false, false, false, false] rfl rfl (one_of HT_.out (by kernel_rfl)) (by decide) (fun K hK => ?_)
    refine goes_ Tryz.func19 (by kernel_rfl) rfl #[.agg #[.int .i64 t516, .bool t517, .int .i64 t518]] (by rfl) rfl rfl q56_ ?_
    with_reducible refine (spec_InsBytes.calls k t516 t517 t518 t521 _ A11.out).mono ?_
    rintro e w25 ⟨rfl, hb⟩
    refine ⟨_, rfl, ?_⟩
    have n0_ := Aside0.mk (blk_below (g := gb519) (o := .cells #[.int .i64 t516, .bool t517, .int .i64 t518] 30 (0, 0)) q69_ hb)
    have n1_ := Aside0.mk (below_step q50_ hb)
    clear BK519
    clear HB
    have BK519 := n0_
    have HB := n1_
    clear n0_ n1_
    (try clear hb)
    (try clear hb2)
    (try clear hk)
    (try clear hi)
    refine hK.out _ _ ⟨(blk_cell BK519.out 0).trans rfl, (blk_cell BK519.out 1).trans rfl, (blk_cell BK519.out 2).trans rfl⟩ (fun hHeld => ?_)
    clear hK K
    refine norm_ (a' := ?_) ?_ ?_
    rotate_left
    ·show Act.put _ (some 19) _ = _
     simp only [Act.put, List.setIfInBounds_toArray, List.set_cons_zero, List.set_cons_succ, i64_w, i32_w]
     rfl
    refine pure_ (i := 3) (N := some 20) (v := ?_) (a' := ?_) #[true, true, true, true, false, false, false, false, false, false, false, false, false, false, false] rfl rfl (any_of HT_.out (by kernel_rfl)) (fun _ _ _ h => h) (Or.inl ⟨by rfl, ?_⟩) ?_ ?_
    rotate_left
    ·intro w'
     go_simp
     with_reducible rfl
    rotate_left
    ·simp only [Act.put, List.setIfInBounds_toArray, List.set_cons_zero, List.set_cons_succ, i64_w, i32_w]
     rfl
    refine pure_ (i := 4) (N := some 21) (v := ?_) (a' := ?_) #[true, true, true, true, true, false, false, false, false, false, false, false, false, false, false] rfl rfl (any_of HT_.out (by kernel_rfl)) (fun _ _ _ h => h) (Or.inl ⟨by rfl, ?_⟩) ?_ ?_
    rotate_left
    ·intro w'
     go_simp
     with_reducible rfl
    rotate_left
    ·simp only [Act.put, List.setIfInBounds_toArray, List.set_cons_zero, List.set_cons_succ, i64_w, i32_w]
     rfl
    refine pure_ (i := 5) (N := some 22) (v := undef) (a' := ?_) #[true, true, true, true, true, true, false, false, false, false, false, false, false, false, false] rfl rfl (any_of HT_.out (by kernel_rfl)) (fun _ _ _ h => h) (Or.inr ⟨by rfl, rfl⟩) ?_ ?_
    rotate_left
    ·simp only [Act.put, List.setIfInBounds_toArray, List.set_cons_zero, List.set_cons_succ, i64_w, i32_w]
     rfl
    refine pure_ (i := 6) (N := some 23) (v := undef) (a' := ?_) #[true, true, true, true, true, true, true, false, false, false, false, false, false, false, false] rfl rfl (any_of HT_.out (by kernel_rfl)) (fun _ _ _ h => h) (Or.inr ⟨by rfl, rfl⟩) ?_ ?_
    rotate_left
    ·simp only [Act.put, List.setIfInBounds_toArray, List.set_cons_zero, List.set_cons_succ, i64_w, i32_w]
     rfl
    refine pure_ (i := 7) (N := some 24) (v := undef) (a' := ?_) #[true, true, true, true, true, true, true, true, false, false, false, false, false, false, false] rfl rfl (any_of HT_.out (by kernel_rfl)) (fun _ _ _ h => h) (Or.inr ⟨by rfl, rfl⟩) ?_ ?_
    rotate_left
    ·simp only [Act.put, List.setIfInBounds_toArray, List.set_cons_zero, List.set_cons_succ, i64_w, i32_w]
     rfl
    refine pure_ (i := 8) (N := some 25) (v := undef) (a' := ?_) #[true, true, true, true, true, true, true, true, true, false, false, false, false, false, false] rfl rfl (any_of HT_.out (by kernel_rfl)) (fun _ _ _ h => h) (Or.inr ⟨by rfl, rfl⟩) ?_ ?_
    rotate_left
    ·simp only [Act.put, List.setIfInBounds_toArray, List.set_cons_zero, List.set_cons_succ, i64_w, i32_w]
     rfl
    refine pure_ (i := 9) (N := some 26) (v := undef) (a' := ?_) #[true, true, true, true, true, true, true, true, true, true, false, false, false, false, false] rfl rfl (any_of HT_.out (by kernel_rfl)) (fun _ _ _ h => h) (Or.inr ⟨by rfl, rfl⟩) ?_ ?_
    rotate_left
    ·simp only [Act.put, List.setIfInBounds_toArray, List.set_cons_zero, List.set_cons_succ, i64_w, i32_w]
     rfl
    refine pure_ (i := 10) (N := some 27) (v := ?_) (a' := ?_) #[true, true, true, true, true, true, true, true, true, true, true, false, false, false, false] rfl rfl (any_of HT_.out (by kernel_rfl)) (fun _ _ _ h => h) (Or.inl ⟨by rfl, ?_⟩) ?_ ?_
    rotate_left
    ·intro w'
     go_simp
     with_reducible rfl
    rotate_left
    ·simp only [Act.put, List.setIfInBounds_toArray, List.set_cons_zero, List.set_cons_succ, i64_w, i32_w]
     rfl
    refine pure_ (i := 11) (N := some 28) (v := ?_) (a' := ?_) #[true, true, true, true, true, true, true, true, true, true, true, true, false, false, false] rfl rfl (any_of HT_.out (by kernel_rfl)) (fun _ _ _ h => h) (Or.inl ⟨by rfl, ?_⟩) ?_ ?_
    rotate_left
    ·intro w'
     go_simp
     with_reducible rfl
    rotate_left
    ·simp only [Act.put, List.setIfInBounds_toArray, List.set_cons_zero, List.set_cons_succ, i64_w, i32_w]
     rfl
    refine pure_ (i := 12) (N := some 29) (v := undef) (a' := ?_) #[true, true, true, true, true, true, true, true, true, true, true, true, true, false, false] rfl rfl (any_of HT_.out (by kernel_rfl)) (fun _ _ _ h => h) (Or.inr ⟨by rfl, rfl⟩) ?_ ?_
    rotate_left
    ·simp only [Act.put, List.setIfInBounds_toArray, List.set_cons_zero, List.set_cons_succ, i64_w, i32_w]
     rfl
    refine pure_ (i := 13) (N := some 30) (v := undef) (a' := ?_) #[true, true, true, true, true, true, true, true, true, true, true, true, true, true, false] rfl rfl (any_of HT_.out (by kernel_rfl)) (fun _ _ _ h => h) (Or.inr ⟨by rfl, rfl⟩) ?_ ?_
    rotate_left
    ·simp only [Act.put, List.setIfInBounds_toArray, List.set_cons_zero, List.set_cons_succ, i64_w, i32_w]
     rfl
    refine pure_ (i := 14) (N := some 31) (v := ?_) (a' := ?_) #[true, true, true, true, true, true, true, true, true, true, true, true, true, true, true] rfl rfl (any_of HT_.out (by kernel_rfl)) (fun _ _ _ h => h) (Or.inl ⟨by rfl, ?_⟩) ?_ ?_
    rotate_left
    ·intro w'
     go_simp
     with_reducible rfl
    rotate_left
    ·simp only [Act.put, List.setIfInBounds_toArray, List.set_cons_zero, List.set_cons_succ, i64_w, i32_w]
     rfl
    refine done_ (done_of HT_.out (by kernel_rfl)) ?_
    try go_wp2
    go_meet
    case rel => exact ⟨_, (true), q73_, H', ⟨q99_⟩, ⟨q69_⟩, ⟨q50_⟩⟩
  case rest =>
   clear HC6
   try clear c1
   try clear c2
   try clear p2
   try clear c3
   try clear c4
   try clear p6
   try clear c11
   try clear c12
   try clear c12b0
   try clear c12b1
   try clear c15
   try clear c15b0
   try clear c15b1
   try clear c15b2
   try clear c17
   try clear c18
   try clear c19
   try clear c20
   try clear c21
   try clear hcz9_0 hcz9_1 hcz9_2
   try clear hfz9_0 hfz9_1 hfz9_2
   obtain ⟨kq, x31_5, rfl, HA, HJ5, BK519, HB⟩ := hcut
   cases kq with
   | zero => exact absurd HA.out (by simp [laws_FnIns.j0])
   | succ kj5 =>
    have H := HA.out
    clear HA
    simp only [laws_FnIns.j0] at H
    by_cases c26 : x31_5 = true
    ·subst c26
     replace H : ((spec_InsBytes.f kj5 t516 t517 t518).bind fun t524 => (if t520.toList = t524.toList then ((impl_InsOk.f kj5 t516 t517 t518).bind fun t525 => ((spec_InsOk.f kj5 t516 t517 t518).bind fun t526 => (some (t525 == t526)))) else (some false))) = some r := by rw [if_pos rfl] at H; exact H
     replace H := Option.bind_eq_some_iff.mp H
     obtain ⟨t524, A270, H⟩ := H
     have A27 := Aside0.mk A270
     clear A270
     by_cases c28 : t520.toList = t524.toList
     ·rw [if_pos c28] at H
      have c28b0 : (t520.toList == t524.toList) = true := beq_iff_eq.mpr c28
      have c28b1 : (t520.toList != t524.toList) = false := bne_eq_false_iff_eq.mpr c28
      clear c28
      replace H := Option.bind_eq_some_iff.mp H
      obtain ⟨t525, A290, H⟩ := H
      have A29 := Aside0.mk A290
      clear A290
      replace H := Option.bind_eq_some_iff.mp H
      obtain ⟨t526, A300, H⟩ := H
      have A30 := Aside0.mk A300
      clear A300
      obtain rfl := Option.some.inj H
      try go_wp2
      have n0_ := Aside0.mk (blk_drew BK519.out)
      have n1_ := Aside0.mk (below_drew1 HB.out)
      clear BK519
      clear HB
      have BK519 := n0_
      have HB := n1_
      clear n0_ n1_
      refine start_ (n := 12) (S := fun w' => w'.cell? ⟨gb519, 0, none⟩ = some (.int .i64 t516) ∧ w'.cell? ⟨gb519, 1, none⟩ = some (.bool t517) ∧ w'.cell? ⟨gb519, 2, none⟩ = some (.int .i64 t518)) (ds := []) #[false, false, false, false, false, false, false, false, false, false, false, false] (by kernel_rfl) rfl rfl ⟨(blk_cell BK519.out 0).trans rfl, (blk_cell BK519.out 1).trans rfl, (blk_cell BK519.out 2).trans rfl⟩ (fun hHeld => ?_); refine with_tabW laws_FnIns.tab6 laws_FnIns.bits6 (fun HT_ HW_ => ?_)
      generalize wc.drew = w31 at BK519 HB hHeld ⊢
      refine pure_ (i := 0) (N := some 32) (v := ?_) (a' := ?_) #[true, false, false, false, false, false, false, false, false, false, false, false] rfl rfl (any_of HT_.out (by kernel_rfl)) (fun _ _ _ h => h) (Or.inl ⟨by rfl, ?_⟩) ?_ ?_
      rotate_left
      ·intro w'
       go_simp
       with_reducible rfl
      rotate_left
      ·simp only [Act.put, List.setIfInBounds_toArray, List.set_cons_zero, List.set_cons_succ, i64_w, i32_w]
       rfl
      refine take_ (i := 1) (N := some 33) (v := ?_) (a' := ?_) #[true, true, false, false, false, false, false, false, false, false, false, false] rfl rfl (take_ofW HT_.out HW_.out (by kernel_rfl)) (fun _ _ _ h => h) (Or.inl ⟨by rfl, ?_⟩) hHeld ?_ ?_
      rotate_left
      ·rintro w' ⟨s0, s1, s2⟩
       go_simp
       with_reducible rfl
      rotate_left
      ·simp only [Act.put, List.setIfInBounds_toArray, List.set_cons_zero, List.set_cons_succ, i64_w, i32_w]
       rfl
      refine one_ (i := 2) (N := some 34) #[true, true, true, false, false, false, false, false, false, false, false, false] rfl rfl (one_of HT_.out (by kernel_rfl)) (by decide) (fun K hK => ?_)
      refine goes_ Tryz.func19 (by kernel_rfl) rfl #[.agg #[.int .i64 t516, .bool t517, .int .i64 t518]] (by rfl) rfl rfl q56_ ?_
      with_reducible refine (spec_InsBytes.calls kj5 t516 t517 t518 t524 _ A27.out).mono ?_
      rintro e w32 ⟨rfl, hb⟩
      refine ⟨_, rfl, ?_⟩
      have n0_ := Aside0.mk (blk_below (g := gb519) (o := .cells #[.int .i64 t516, .bool t517, .int .i64 t518] 30 (0, 0)) q69_ hb)
      have n1_ := Aside0.mk (below_step q50_ hb)
      clear BK519
      clear HB
      have BK519 := n0_
      have HB := n1_
      clear n0_ n1_
      (try clear hb)
      (try clear hb2)
      (try clear hk)
      (try clear hi)
      refine hK.out _ _ ⟨(blk_cell BK519.out 0).trans rfl, (blk_cell BK519.out 1).trans rfl, (blk_cell BK519.out 2).trans rfl⟩ (fun hHeld => ?_)
      clear hK K
      refine norm_ (a' := ?_) ?_ ?_
      rotate_left
      ·show Act.put _ (some 34) _ = _
       simp only [Act.put, List.setIfInBounds_toArray, List.set_cons_zero, List.set_cons_succ, i64_w, i32_w]
       rfl
      refine pure_ (i := 3) (N := some 35) (v := ?_) (a' := ?_) #[true, true, true, true, false, false, false, false, false, false, false, false] rfl rfl (any_of HT_.out (by kernel_rfl)) (fun _ _ _ h => h) (Or.inl ⟨by rfl, ?_⟩) ?_ ?_
      rotate_left
      ·intro w'
       go_simp
       with_reducible rfl
      rotate_left
      ·simp only [Act.put, List.setIfInBounds_toArray, List.set_cons_zero, List.set_cons_succ, i64_w, i32_w]
       rfl
      refine pure_ (i := 4) (N := some 36) (v := ?_) (a' := ?_) #[true, true, true, true, true, false, false, false, false, false, false, false] rfl rfl (any_of HT_.out (by kernel_rfl)) (fun _ _ _ h => h) (Or.inl ⟨by rfl, ?_⟩) ?_ ?_
      rotate_left
      ·intro w'
       go_simp
       with_reducible rfl
      rotate_left
      ·simp only [Act.put, List.setIfInBounds_toArray, List.set_cons_zero, List.set_cons_succ, i64_w, i32_w]
       rfl
      refine take_ (i := 5) (N := some 37) (v := ?_) (a' := ?_) #[true, true, true, true, true, true, false, false, false, false, false, false] rfl rfl (take_ofW HT_.out HW_.out (by kernel_rfl)) (fun _ _ _ h => h) (Or.inl ⟨by rfl, ?_⟩) hHeld ?_ ?_
      rotate_left
      ·rintro w' ⟨s0, s1, s2⟩
       go_simp
       with_reducible rfl
      rotate_left
      ·simp only [Act.put, List.setIfInBounds_toArray, List.set_cons_zero, List.set_cons_succ, i64_w, i32_w]
       rfl
      refine take_ (i := 7) (N := some 39) (v := ?_) (a' := ?_) #[true, true, true, true, true, true, false, true, false, false, false, false] rfl rfl (take_ofW HT_.out HW_.out (by kernel_rfl)) (fun _ _ _ h => h) (Or.inl ⟨by rfl, ?_⟩) hHeld ?_ ?_
      rotate_left
      ·rintro w' ⟨s0, s1, s2⟩
       go_simp
       with_reducible rfl
      rotate_left
      ·simp only [Act.put, List.setIfInBounds_toArray, List.set_cons_zero, List.set_cons_succ, i64_w, i32_w]
       rfl
      refine one_ (i := 6) (N := some 38) #[true, true, true, true, true, true, true, true, false, false, false, false] rfl rfl (one_of HT_.out (by kernel_rfl)) (by decide) (fun K hK => ?_)
      refine goes_ Tryz.func20 (by kernel_rfl) rfl #[.agg #[.int .i64 t516, .bool t517, .int .i64 t518]] (by rfl) rfl rfl q56_ ?_
      with_reducible refine (impl_InsOk.calls kj5 t516 t517 t518 t525 _ A29.out).mono ?_
      rintro e w33 ⟨rfl, hb⟩
      refine ⟨_, rfl, ?_⟩
      have n0_ := Aside0.mk (blk_below (g := gb519) (o := .cells #[.int .i64 t516, .bool t517, .int .i64 t518] 30 (0, 0)) q69_ hb)
      have n1_ := Aside0.mk (below_step q50_ hb)
      clear BK519
      clear HB
      have BK519 := n0_
      have HB := n1_
      clear n0_ n1_
      (try clear hb)
      (try clear hb2)
      (try clear hk)
      (try clear hi)
      refine hK.out _ _ ⟨(blk_cell BK519.out 0).trans rfl, (blk_cell BK519.out 1).trans rfl, (blk_cell BK519.out 2).trans rfl⟩ (fun hHeld => ?_)
      clear hK K
      refine norm_ (a' := ?_) ?_ ?_
      rotate_left
      ·show Act.put _ (some 38) _ = _
       simp only [Act.put, List.setIfInBounds_toArray, List.set_cons_zero, List.set_cons_succ, i64_w, i32_w]
       rfl
      refine one_ (i := 8) (N := some 40) #[true, true, true, true, true, true, true, true, true, false, false, false] rfl rfl (one_of HT_.out (by kernel_rfl)) (by decide) (fun K hK => ?_)
      refine goes_ Tryz.func21 (by kernel_rfl) rfl #[.agg #[.int .i64 t516, .bool t517, .int .i64 t518]] (by rfl) rfl rfl q56_ ?_
      with_reducible refine (spec_InsOk.calls kj5 t516 t517 t518 t526 _ A30.out).mono ?_
      rintro e w34 ⟨rfl, hb⟩
      refine ⟨_, rfl, ?_⟩
      have n0_ := Aside0.mk (blk_below (g := gb519) (o := .cells #[.int .i64 t516, .bool t517, .int .i64 t518] 30 (0, 0)) q69_ hb)
      have n1_ := Aside0.mk (below_step q50_ hb)
      clear BK519
      clear HB
      have BK519 := n0_
      have HB := n1_
      clear n0_ n1_
      (try clear hb)
      (try clear hb2)
      (try clear hk)
      (try clear hi)
      refine hK.out _ _ ⟨(blk_cell BK519.out 0).trans rfl, (blk_cell BK519.out 1).trans rfl, (blk_cell BK519.out 2).trans rfl⟩ (fun hHeld => ?_)
      clear hK K
      refine norm_ (a' := ?_) ?_ ?_
      rotate_left
      ·show Act.put _ (some 40) _ = _
       simp only [Act.put, List.setIfInBounds_toArray, List.set_cons_zero, List.set_cons_succ, i64_w, i32_w]
       rfl
      refine pure_ (i := 9) (N := some 41) (v := ?_) (a' := ?_) #[true, true, true, true, true, true, true, true, true, true, false, false] rfl rfl (any_of HT_.out (by kernel_rfl)) (fun _ _ _ h => h) (Or.inl ⟨by rfl, ?_⟩) ?_ ?_
      rotate_left
      ·intro w'
       go_simp
       with_reducible rfl
      rotate_left
      ·simp only [Act.put, List.setIfInBounds_toArray, List.set_cons_zero, List.set_cons_succ, i64_w, i32_w]
       rfl
      refine pure_ (i := 10) (N := some 42) (v := ?_) (a' := ?_) #[true, true, true, true, true, true, true, true, true, true, true, false] rfl rfl (any_of HT_.out (by kernel_rfl)) (fun _ _ _ h => h) (Or.inl ⟨by rfl, ?_⟩) ?_ ?_
      rotate_left
      ·intro w'
       go_simp
       with_reducible rfl
      rotate_left
      ·simp only [Act.put, List.setIfInBounds_toArray, List.set_cons_zero, List.set_cons_succ, i64_w, i32_w]
       rfl
      refine pure_ (i := 11) (N := some 2) (v := ?_) (a' := ?_) #[true, true, true, true, true, true, true, true, true, true, true, true] rfl rfl (any_of HT_.out (by kernel_rfl)) (fun _ _ _ h => h) (Or.inl ⟨by rfl, ?_⟩) ?_ ?_
      rotate_left
      ·intro w'
       go_simp
       with_reducible rfl
      rotate_left
      ·simp only [Act.put, List.setIfInBounds_toArray, List.set_cons_zero, List.set_cons_succ, i64_w, i32_w]
       rfl
      refine done_ (done_of HT_.out (by kernel_rfl)) ?_
      try go_wp2
      go_ret
      exact ⟨q59_, q50_⟩
     ·rw [if_neg c28] at H
      have c28b0 : (t520.toList == t524.toList) = false := beq_eq_false_iff_ne.mpr c28
      have c28b1 : (t520.toList != t524.toList) = true := bne_iff_ne.mpr c28
      obtain rfl := Option.some.inj H
      try go_wp2
      have n0_ := Aside0.mk (blk_drew BK519.out)
      have n1_ := Aside0.mk (below_drew1 HB.out)
      clear BK519
      clear HB
      have BK519 := n0_
      have HB := n1_
      clear n0_ n1_
      refine start_ (n := 12) (S := fun w' => w'.cell? ⟨gb519, 0, none⟩ = some (.int .i64 t516) ∧ w'.cell? ⟨gb519, 1, none⟩ = some (.bool t517) ∧ w'.cell? ⟨gb519, 2, none⟩ = some (.int .i64 t518)) (ds := []) #[false, false, false, false, false, false, false, false, false, false, false, false] (by kernel_rfl) rfl rfl ⟨(blk_cell BK519.out 0).trans rfl, (blk_cell BK519.out 1).trans rfl, (blk_cell BK519.out 2).trans rfl⟩ (fun hHeld => ?_); refine with_tabW laws_FnIns.tab6 laws_FnIns.bits6 (fun HT_ HW_ => ?_)
      generalize wc.drew = w35 at BK519 HB hHeld ⊢
      refine pure_ (i := 0) (N := some 32) (v := ?_) (a' := ?_) #[true, false, false, false, false, false, false, false, false, false, false, false] rfl rfl (any_of HT_.out (by kernel_rfl)) (fun _ _ _ h => h) (Or.inl ⟨by rfl, ?_⟩) ?_ ?_
      rotate_left
      ·intro w'
       go_simp
       with_reducible rfl
      rotate_left
      ·simp only [Act.put, List.setIfInBounds_toArray, List.set_cons_zero, List.set_cons_succ, i64_w, i32_w]
       rfl
      refine take_ (i := 1) (N := some 33) (v := ?_) (a' := ?_) #[true, true, false, false, false, false, false, false, false, false, false, false] rfl rfl (take_ofW HT_.out HW_.out (by kernel_rfl)) (fun _ _ _ h => h) (Or.inl ⟨by rfl, ?_⟩) hHeld ?_ ?_
      rotate_left
      ·rintro w' ⟨s0, s1, s2⟩
       go_simp
       with_reducible rfl
      rotate_left
      ·simp only [Act.put, List.setIfInBounds_toArray, List.set_cons_zero, List.set_cons_succ, i64_w, i32_w]
       rfl
      refine one_ (i := 2) (N := some 34) #[true, true, true, false, false, false, false, false, false, false, false, false] rfl rfl (one_of HT_.out (by kernel_rfl)) (by decide) (fun K hK => ?_)
      refine goes_ Tryz.func19 (by kernel_rfl) rfl #[.agg #[.int .i64 t516, .bool t517, .int .i64 t518]] (by rfl) rfl rfl q56_ ?_
      with_reducible refine (spec_InsBytes.calls kj5 t516 t517 t518 t524 _ A27.out).mono ?_
      rintro e w36 ⟨rfl, hb⟩
      refine ⟨_, rfl, ?_⟩
      have n0_ := Aside0.mk (blk_below (g := gb519) (o := .cells #[.int .i64 t516, .bool t517, .int .i64 t518] 30 (0, 0)) q69_ hb)
      have n1_ := Aside0.mk (below_step q50_ hb)
      clear BK519
      clear HB
      have BK519 := n0_
      have HB := n1_
      clear n0_ n1_
      (try clear hb)
      (try clear hb2)
      (try clear hk)
      (try clear hi)
      refine hK.out _ _ ⟨(blk_cell BK519.out 0).trans rfl, (blk_cell BK519.out 1).trans rfl, (blk_cell BK519.out 2).trans rfl⟩ (fun hHeld => ?_)
      clear hK K
      refine norm_ (a' := ?_) ?_ ?_
      rotate_left
      ·show Act.put _ (some 34) _ = _
       simp only [Act.put, List.setIfInBounds_toArray, List.set_cons_zero, List.set_cons_succ, i64_w, i32_w]
       rfl
      refine pure_ (i := 3) (N := some 35) (v := ?_) (a' := ?_) #[true, true, true, true, false, false, false, false, false, false, false, false] rfl rfl (any_of HT_.out (by kernel_rfl)) (fun _ _ _ h => h) (Or.inl ⟨by rfl, ?_⟩) ?_ ?_
      rotate_left
      ·intro w'
       go_simp
       with_reducible rfl
      rotate_left
      ·simp only [Act.put, List.setIfInBounds_toArray, List.set_cons_zero, List.set_cons_succ, i64_w, i32_w]
       rfl
      refine pure_ (i := 4) (N := some 36) (v := ?_) (a' := ?_) #[true, true, true, true, true, false, false, false, false, false, false, false] rfl rfl (any_of HT_.out (by kernel_rfl)) (fun _ _ _ h => h) (Or.inl ⟨by rfl, ?_⟩) ?_ ?_
      rotate_left
      ·intro w'
       go_simp
       with_reducible rfl
      rotate_left
      ·simp only [Act.put, List.setIfInBounds_toArray, List.set_cons_zero, List.set_cons_succ, i64_w, i32_w]
       rfl
      refine pure_ (i := 5) (N := some 37) (v := undef) (a' := ?_) #[true, true, true, true, true, true, false, false, false, false, false, false] rfl rfl (any_of HT_.out (by kernel_rfl)) (fun _ _ _ h => h) (Or.inr ⟨by rfl, rfl⟩) ?_ ?_
      rotate_left
      ·simp only [Act.put, List.setIfInBounds_toArray, List.set_cons_zero, List.set_cons_succ, i64_w, i32_w]
       rfl
      refine pure_ (i := 6) (N := some 38) (v := undef) (a' := ?_) #[true, true, true, true, true, true, true, false, false, false, false, false] rfl rfl (any_of HT_.out (by kernel_rfl)) (fun _ _ _ h => h) (Or.inr ⟨by rfl, rfl⟩) ?_ ?_
      rotate_left
      ·simp only [Act.put, List.setIfInBounds_toArray, List.set_cons_zero, List.set_cons_succ, i64_w, i32_w]
       rfl
      refine pure_ (i := 7) (N := some 39) (v := undef) (a' := ?_) #[true, true, true, true, true, true, true, true, false, false, false, false] rfl rfl (any_of HT_.out (by kernel_rfl)) (fun _ _ _ h => h) (Or.inr ⟨by rfl, rfl⟩) ?_ ?_
      rotate_left
      ·simp only [Act.put, List.setIfInBounds_toArray, List.set_cons_zero, List.set_cons_succ, i64_w, i32_w]
       rfl
      refine pure_ (i := 8) (N := some 40) (v := undef) (a' := ?_) #[true, true, true, true, true, true, true, true, true, false, false, false] rfl rfl (any_of HT_.out (by kernel_rfl)) (fun _ _ _ h => h) (Or.inr ⟨by rfl, rfl⟩) ?_ ?_
      rotate_left
      ·simp only [Act.put, List.setIfInBounds_toArray, List.set_cons_zero, List.set_cons_succ, i64_w, i32_w]
       rfl
      refine pure_ (i := 9) (N := some 41) (v := undef) (a' := ?_) #[true, true, true, true, true, true, true, true, true, true, false, false] rfl rfl (any_of HT_.out (by kernel_rfl)) (fun _ _ _ h => h) (Or.inr ⟨by rfl, rfl⟩) ?_ ?_
      rotate_left
      ·simp only [Act.put, List.setIfInBounds_toArray, List.set_cons_zero, List.set_cons_succ, i64_w, i32_w]
       rfl
      refine pure_ (i := 10) (N := some 42) (v := ?_) (a' := ?_) #[true, true, true, true, true, true, true, true, true, true, true, false] rfl rfl (any_of HT_.out (by kernel_rfl)) (fun _ _ _ h => h) (Or.inl ⟨by rfl, ?_⟩) ?_ ?_
      rotate_left
      ·intro w'
       go_simp
       with_reducible rfl
      rotate_left
      ·simp only [Act.put, List.setIfInBounds_toArray, List.set_cons_zero, List.set_cons_succ, i64_w, i32_w]
       rfl
      refine pure_ (i := 11) (N := some 2) (v := ?_) (a' := ?_) #[true, true, true, true, true, true, true, true, true, true, true, true] rfl rfl (any_of HT_.out (by kernel_rfl)) (fun _ _ _ h => h) (Or.inl ⟨by rfl, ?_⟩) ?_ ?_
      rotate_left
      ·intro w'
       go_simp
       with_reducible rfl
      rotate_left
      ·simp only [Act.put, List.setIfInBounds_toArray, List.set_cons_zero, List.set_cons_succ, i64_w, i32_w]
       rfl
      refine done_ (done_of HT_.out (by kernel_rfl)) ?_
      try go_wp2
      go_ret
      exact ⟨q59_, q50_⟩
    ·replace c26 := Bool.eq_false_iff.mpr c26
     subst c26
     replace H : ((impl_ReadIns.f kj5 t520 0).bind fun bt527 => (if 2 + t520.size ≤ 9223372036854775807 then (if ((⟨#[120, 121]⟩ : ByteArray) ++ t520).size + 1 ≤ 9223372036854775807 then ((impl_ReadIns.f kj5 (((⟨#[120, 121]⟩ : ByteArray) ++ t520) ++ (⟨#[122]⟩ : ByteArray)) 2).bind fun bt532 => (if 0 ≤ (wrap64 ((t520.size : Int) - 1)) then (if (wrap64 ((t520.size : Int) - 1)) ≤ (t520.size : Int) then ((impl_ReadIns.f kj5 (t520.extract 0 ((wrap64 ((t520.size : Int) - 1)) : Int).toNat) 0).bind fun bt537 => (if (bt527.1 == t516 && (bt527.2.1 == t517 && (bt527.2.2.1 == t518))) = true then (if bt527.2.2.2 = (t520.size : Int) then (if (bt532.1 == t516 && (bt532.2.1 == t517 && (bt532.2.2.1 == t518))) = true then (if bt532.2.2.2 = bt527.2.2.2 then (if bt537.2.2.2 = 0 then ((impl_LengthOf.f kj5 t516 t517).bind fun t542 => (some (t542 == bt527.2.2.2))) else (some false)) else (some false)) else (some false)) else (some false)) else (some false))) else (none)) else (none))) else (none)) else (none))) = some r := by rw [if_neg (show ¬ (false = true) by decide)] at H; exact H
     replace H := Option.bind_eq_some_iff.mp H
     obtain ⟨⟨t527, t528, t529, t530⟩, A370, H⟩ := H
     replace H : (if 2 + t520.size ≤ 9223372036854775807 then (if ((⟨#[120, 121]⟩ : ByteArray) ++ t520).size + 1 ≤ 9223372036854775807 then ((impl_ReadIns.f kj5 (((⟨#[120, 121]⟩ : ByteArray) ++ t520) ++ (⟨#[122]⟩ : ByteArray)) 2).bind fun bt532 => (if 0 ≤ (wrap64 ((t520.size : Int) - 1)) then (if (wrap64 ((t520.size : Int) - 1)) ≤ (t520.size : Int) then ((impl_ReadIns.f kj5 (t520.extract 0 ((wrap64 ((t520.size : Int) - 1)) : Int).toNat) 0).bind fun bt537 => (if (t527 == t516 && (t528 == t517 && (t529 == t518))) = true then (if t530 = (t520.size : Int) then (if (bt532.1 == t516 && (bt532.2.1 == t517 && (bt532.2.2.1 == t518))) = true then (if bt532.2.2.2 = t530 then (if bt537.2.2.2 = 0 then ((impl_LengthOf.f kj5 t516 t517).bind fun t542 => (some (t542 == t530))) else (some false)) else (some false)) else (some false)) else (some false)) else (some false))) else (none)) else (none))) else (none)) else (none)) = some r := H
     have A37 := Aside0.mk A370
     clear A370
     by_cases c38 : 2 + t520.size ≤ 9223372036854775807
     ·rw [if_pos c38] at H
      have c38b0 := eq_true c38
      have c38b1 : decide (2 + t520.size ≤ 9223372036854775807) = true := decide_eq_true c38
      try have c38b2 : (9223372036854775807 < 2 + t520.size) = False := eq_false (Nat.not_lt.2 c38)
      by_cases c39 : ((⟨#[120, 121]⟩ : ByteArray) ++ t520).size + 1 ≤ 9223372036854775807
      ·rw [if_pos c39] at H
       have c39b0 := eq_true c39
       (try (have c39b0e := c39b0; simp only [ByteArray.size_append, ByteArray.size_extract, Nat.min_self, Nat.sub_zero, show (⟨#[120, 121]⟩ : ByteArray).size = 2 from rfl] at c39b0e))
       have c39b1 : decide (((⟨#[120, 121]⟩ : ByteArray) ++ t520).size + 1 ≤ 9223372036854775807) = true := decide_eq_true c39
       (try (have c39b1e := c39b1; simp only [ByteArray.size_append, ByteArray.size_extract, Nat.min_self, Nat.sub_zero, show (⟨#[120, 121]⟩ : ByteArray).size = 2 from rfl] at c39b1e))
       try have c39b2 : (9223372036854775807 < ((⟨#[120, 121]⟩ : ByteArray) ++ t520).size + 1) = False := eq_false (Nat.not_lt.2 c39)
       (try (have c39b2e := c39b2; simp only [ByteArray.size_append, ByteArray.size_extract, Nat.min_self, Nat.sub_zero, show (⟨#[120, 121]⟩ : ByteArray).size = 2 from rfl] at c39b2e))
       replace H := Option.bind_eq_some_iff.mp H
       obtain ⟨⟨t532, t533, t534, t535⟩, A400, H⟩ := H
       replace H : (if 0 ≤ (wrap64 ((t520.size : Int) - 1)) then (if (wrap64 ((t520.size : Int) - 1)) ≤ (t520.size : Int) then ((impl_ReadIns.f kj5 (t520.extract 0 ((wrap64 ((t520.size : Int) - 1)) : Int).toNat) 0).bind fun bt537 => (if (t527 == t516 && (t528 == t517 && (t529 == t518))) = true then (if t530 = (t520.size : Int) then (if (t532 == t516 && (t533 == t517 && (t534 == t518))) = true then (if t535 = t530 then (if bt537.2.2.2 = 0 then ((impl_LengthOf.f kj5 t516 t517).bind fun t542 => (some (t542 == t530))) else (some false)) else (some false)) else (some false)) else (some false)) else (some false))) else (none)) else (none)) = some r := H
       have A40 := Aside0.mk A400
       clear A400
       obtain ⟨ji41, hji41⟩ : ∃ j_ : Int, (wrap64 ((t520.size : Int) - 1)) = j_ := ⟨_, rfl⟩
       replace H : (if 0 ≤ (ji41) then (if (ji41) ≤ (t520.size : Int) then ((impl_ReadIns.f kj5 (t520.extract 0 ((ji41) : Int).toNat) 0).bind fun bt537 => (if (t527 == t516 && (t528 == t517 && (t529 == t518))) = true then (if t530 = (t520.size : Int) then (if (t532 == t516 && (t533 == t517 && (t534 == t518))) = true then (if t535 = t530 then (if bt537.2.2.2 = 0 then ((impl_LengthOf.f kj5 t516 t517).bind fun t542 => (some (t542 == t530))) else (some false)) else (some false)) else (some false)) else (some false)) else (some false))) else (none)) else (none)) = some r := by first | (rw [hji41] at H; exact H) | (simp only [hji41] at H ⊢; exact H)
       (try rw [hji41] at A37)
       (try rw [hji41] at A40)
       have hji41w : (IntKind.i64.wrap ((t520.size : Int) - 1)) = ji41 := (i64_w _).trans hji41
       by_cases c42 : 0 ≤ (ji41)
       ·rw [if_pos c42] at H
        have c42b0 := eq_true c42
        have c42b1 : decide (0 ≤ (ji41)) = true := decide_eq_true c42
        clear c42
        by_cases c43 : (ji41) ≤ (t520.size : Int)
        ·rw [if_pos c43] at H
         have c43b0 := eq_true c43
         have c43b1 : decide ((ji41) ≤ (t520.size : Int)) = true := decide_eq_true c43
         clear c43
         replace H := Option.bind_eq_some_iff.mp H
         obtain ⟨⟨t537, t538, t539, t540⟩, A440, H⟩ := H
         replace H : (if (t527 == t516 && (t528 == t517 && (t529 == t518))) = true then (if t530 = (t520.size : Int) then (if (t532 == t516 && (t533 == t517 && (t534 == t518))) = true then (if t535 = t530 then (if t540 = 0 then ((impl_LengthOf.f kj5 t516 t517).bind fun t542 => (some (t542 == t530))) else (some false)) else (some false)) else (some false)) else (some false)) else (some false)) = some r := H
         have A44 := Aside0.mk A440
         clear A440
         by_cases c45 : (t527 == t516 && (t528 == t517 && (t529 == t518))) = true
         ·rw [if_pos c45] at H
          have c45b0 : (t527 == t516 && (t528 == t517 && (t529 == t518))) = true := c45
          (try (have c45b1 : decide (t527 = t516 && (t528 == t517 && (t529 == t518))) = true := by simpa using c45))
          (try (have c45b2 : (t527 == t516 && (t528 == t517 && (t529 == t518))) = true := by simpa using c45))
          clear c45
          by_cases c46 : t530 = (t520.size : Int)
          ·rw [if_pos c46] at H
           have c46b0 : (t530 == (t520.size : Int)) = true := beq_iff_eq.mpr c46
           have c46b1 : (t530 != (t520.size : Int)) = false := bne_eq_false_iff_eq.mpr c46
           clear c46
           by_cases c47 : (t532 == t516 && (t533 == t517 && (t534 == t518))) = true
           ·rw [if_pos c47] at H
            have c47b0 : (t532 == t516 && (t533 == t517 && (t534 == t518))) = true := c47
            (try (have c47b1 : decide (t532 = t516 && (t533 == t517 && (t534 == t518))) = true := by simpa using c47))
            (try (have c47b2 : (t532 == t516 && (t533 == t517 && (t534 == t518))) = true := by simpa using c47))
            clear c47
            by_cases c48 : t535 = t530
            ·rw [if_pos c48] at H
             have c48b0 : (t535 == t530) = true := beq_iff_eq.mpr c48
             have c48b1 : (t535 != t530) = false := bne_eq_false_iff_eq.mpr c48
             clear c48
             by_cases c49 : t540 = 0
             ·rw [if_pos c49] at H
              have c49b0 : (t540 == 0) = true := beq_iff_eq.mpr c49
              have c49b1 : (t540 != 0) = false := bne_eq_false_iff_eq.mpr c49
              clear c49
              replace H := Option.bind_eq_some_iff.mp H
              obtain ⟨t542, A500, H⟩ := H
              have A50 := Aside0.mk A500
              clear A500
              obtain rfl := Option.some.inj H
              go_wp2_with (first | ((with_reducible refine gate_callee (f := 22) rfl ?_); refine goesL_ (some 45) rfl rfl Tryz.func22 (by kernel_rfl) rfl #[.string t520, .int .i64 0] rfl q56_ ?_; (with_reducible refine (impl_ReadIns.calls kj5 t520 0 t527 t528 t529 t530 _ A37.out).mono ?_); rintro e w51 ⟨rfl, hb⟩; refine ⟨_, rfl, ?_⟩; have n0_ := Aside0.mk (blk_below (g := gb519) (o := .cells #[.int .i64 t516, .bool t517, .int .i64 t518] 30 (0, 0)) q69_ hb); have n1_ := Aside0.mk (below_step q50_ hb); clear BK519; clear HB; have BK519 := n0_; have HB := n1_; clear n0_ n1_; (try clear hb)) | ((with_reducible refine gate_dst (N := 5) rfl ?_); (try (refine gate_guard (by rfl) ?_; dsimp only)); refine box_event ?hg (N := 5) ?hd (cs := #[.int .i64 0, .bool false, .int .i64 0]) (t := 30) ?hr ?_; (case hd => rfl); (case hg => rfl); (case hr => exact q114_); intro gb531 hg w52 hbox hb; have n0_ := Aside0.mk (blk_below (g := gb519) (o := .cells #[.int .i64 t516, .bool t517, .int .i64 t518] 30 (0, 0)) q69_ hb); have n1_ := Aside0.mk (below_step q50_ hb); have n2_ := Aside0.mk (hbox); have n3_ := Aside0.mk ((q34_ : w.heap.size ≤ gb531)); have n4_ := Aside0.mk ((q34_ : w.heap.size ≤ gb531)); have n5_ := Aside0.mk ((q14_ : gb519 ≠ gb531)); have n6_ := Aside0.mk ((q15_ : gb531 ≠ gb519)); clear BK519; clear HB; have BK519 := n0_; have HB := n1_; have BK531 := n2_; have GW531 := n3_; have GE531 := n4_; have NB519_531 := n5_; have NB531_519 := n6_; clear n0_ n1_ n2_ n3_ n4_ n5_ n6_; clear hb hbox hg; have hnb53 := NB531_519.out; have hnc53 := NB519_531.out; have hcz54_0 : w52.cell? ⟨gb531, 0, none⟩ = some (.int .i64 0) := (blk_cell BK531.out 0).trans rfl; have hcz54_1 : w52.cell? ⟨gb531, 1, none⟩ = some (.bool false) := (blk_cell BK531.out 1).trans rfl; have hcz54_2 : w52.cell? ⟨gb531, 2, none⟩ = some (.int .i64 0) := (blk_cell BK531.out 2).trans rfl; have hfz54_0 := blk_frozen BK531.out 0; have hfz54_1 := blk_frozen BK531.out 1; have hfz54_2 := blk_frozen BK531.out 2) | ((with_reducible refine gate_callee (f := 22) rfl ?_); refine goesL_ (some 52) rfl rfl Tryz.func22 (by kernel_rfl) rfl #[.string (((⟨#[120, 121]⟩ : ByteArray) ++ t520) ++ (⟨#[122]⟩ : ByteArray)), .int .i64 2] rfl q56_ ?_; (with_reducible refine (impl_ReadIns.calls kj5 (((⟨#[120, 121]⟩ : ByteArray) ++ t520) ++ (⟨#[122]⟩ : ByteArray)) 2 t532 t533 t534 t535 _ A40.out).mono ?_); rintro e w55 ⟨rfl, hb⟩; refine ⟨_, rfl, ?_⟩; have n0_ := Aside0.mk (blk_below (g := gb519) (o := .cells #[.int .i64 t516, .bool t517, .int .i64 t518] 30 (0, 0)) q3_ hb); have n1_ := Aside0.mk (blk_below (g := gb531) (o := .cells #[.int .i64 t527, .bool t528, .int .i64 t529] 30 (0, 0)) q0_ hb); have n2_ := Aside0.mk (below_step q36_ hb); clear BK519; clear BK531; clear HB; have BK519 := n0_; have BK531 := n1_; have HB := n2_; clear n0_ n1_ n2_; (try clear hb)) | ((with_reducible refine gate_dst (N := 7) rfl ?_); (try (refine gate_guard (by rfl) ?_; dsimp only)); refine box_event ?hg (N := 7) ?hd (cs := #[.int .i64 0, .bool false, .int .i64 0]) (t := 30) ?hr ?_; (case hd => rfl); (case hg => rfl); (case hr => exact q114_); intro gb536 hg w56 hbox hb; have n0_ := Aside0.mk (blk_below (g := gb519) (o := .cells #[.int .i64 t516, .bool t517, .int .i64 t518] 30 (0, 0)) q69_ hb); have n1_ := Aside0.mk (blk_below (g := gb531) (o := .cells #[.int .i64 t527, .bool t528, .int .i64 t529] 30 (0, 0)) q70_ hb); have n2_ := Aside0.mk (below_step q36_ hb); have n3_ := Aside0.mk (hbox); have n4_ := Aside0.mk ((q22_ : w.heap.size ≤ gb536)); have n5_ := Aside0.mk ((q22_ : w.heap.size ≤ gb536)); have n6_ := Aside0.mk ((q14_ : gb519 ≠ gb536)); have n7_ := Aside0.mk ((q15_ : gb536 ≠ gb519)); have n8_ := Aside0.mk ((q16_ : gb531 ≠ gb536)); have n9_ := Aside0.mk ((q17_ : gb536 ≠ gb531)); clear BK519; clear BK531; clear HB; have BK519 := n0_; have BK531 := n1_; have HB := n2_; have BK536 := n3_; have GW536 := n4_; have GE536 := n5_; have NB519_536 := n6_; have NB536_519 := n7_; have NB531_536 := n8_; have NB536_531 := n9_; clear n0_ n1_ n2_ n3_ n4_ n5_ n6_ n7_ n8_ n9_; clear hb hbox hg; have hnb57 := NB536_519.out; have hnc57 := NB519_536.out; have hnb58 := NB536_531.out; have hnc58 := NB531_536.out; have hcz59_0 : w56.cell? ⟨gb536, 0, none⟩ = some (.int .i64 0) := (blk_cell BK536.out 0).trans rfl; have hcz59_1 : w56.cell? ⟨gb536, 1, none⟩ = some (.bool false) := (blk_cell BK536.out 1).trans rfl; have hcz59_2 : w56.cell? ⟨gb536, 2, none⟩ = some (.int .i64 0) := (blk_cell BK536.out 2).trans rfl; have hfz59_0 := blk_frozen BK536.out 0; have hfz59_1 := blk_frozen BK536.out 1; have hfz59_2 := blk_frozen BK536.out 2) | ((with_reducible refine gate_callee (f := 22) rfl ?_); refine goesL_ (some 61) rfl rfl Tryz.func22 (by kernel_rfl) rfl #[.string (t520.extract 0 ((ji41) : Int).toNat), .int .i64 0] rfl q42_ ?_; (with_reducible refine (impl_ReadIns.calls kj5 (t520.extract 0 ((ji41) : Int).toNat) 0 t537 t538 t539 t540 _ A44.out).mono ?_); rintro e w60 ⟨rfl, hb⟩; refine ⟨_, rfl, ?_⟩; have n0_ := Aside0.mk (blk_below (g := gb519) (o := .cells #[.int .i64 t516, .bool t517, .int .i64 t518] 30 (0, 0)) q4_ hb); have n1_ := Aside0.mk (blk_below (g := gb531) (o := .cells #[.int .i64 t527, .bool t528, .int .i64 t529] 30 (0, 0)) q5_ hb); have n2_ := Aside0.mk (blk_below (g := gb536) (o := .cells #[.int .i64 t532, .bool t533, .int .i64 t534] 30 (0, 0)) q1_ hb); have n3_ := Aside0.mk (below_step q23_ hb); clear BK519; clear BK531; clear BK536; clear HB; have BK519 := n0_; have BK531 := n1_; have BK536 := n2_; have HB := n3_; clear n0_ n1_ n2_ n3_; (try clear hb)) | ((with_reducible refine gate_dst (N := 9) rfl ?_); (try (refine gate_guard (by rfl) ?_; dsimp only)); refine box_event ?hg (N := 9) ?hd (cs := #[.int .i64 0, .bool false, .int .i64 0]) (t := 30) ?hr ?_; (case hd => rfl); (case hg => rfl); (case hr => exact q114_); intro gb541 hg w61 hbox hb; have n0_ := Aside0.mk (blk_below (g := gb519) (o := .cells #[.int .i64 t516, .bool t517, .int .i64 t518] 30 (0, 0)) q69_ hb); have n1_ := Aside0.mk (blk_below (g := gb531) (o := .cells #[.int .i64 t527, .bool t528, .int .i64 t529] 30 (0, 0)) q70_ hb); have n2_ := Aside0.mk (blk_below (g := gb536) (o := .cells #[.int .i64 t532, .bool t533, .int .i64 t534] 30 (0, 0)) q71_ hb); have n3_ := Aside0.mk (below_step q23_ hb); have n4_ := Aside0.mk (hbox); have n5_ := Aside0.mk ((q10_ : w.heap.size ≤ gb541)); have n6_ := Aside0.mk ((q10_ : w.heap.size ≤ gb541)); have n7_ := Aside0.mk ((q14_ : gb519 ≠ gb541)); have n8_ := Aside0.mk ((q15_ : gb541 ≠ gb519)); have n9_ := Aside0.mk ((q16_ : gb531 ≠ gb541)); have n10_ := Aside0.mk ((q17_ : gb541 ≠ gb531)); have n11_ := Aside0.mk ((q18_ : gb536 ≠ gb541)); have n12_ := Aside0.mk ((q19_ : gb541 ≠ gb536)); clear BK519; clear BK531; clear BK536; clear HB; have BK519 := n0_; have BK531 := n1_; have BK536 := n2_; have HB := n3_; have BK541 := n4_; have GW541 := n5_; have GE541 := n6_; have NB519_541 := n7_; have NB541_519 := n8_; have NB531_541 := n9_; have NB541_531 := n10_; have NB536_541 := n11_; have NB541_536 := n12_; clear n0_ n1_ n2_ n3_ n4_ n5_ n6_ n7_ n8_ n9_ n10_ n11_ n12_; clear hb hbox hg; have hnb62 := NB541_519.out; have hnc62 := NB519_541.out; have hnb63 := NB541_531.out; have hnc63 := NB531_541.out; have hnb64 := NB541_536.out; have hnc64 := NB536_541.out; have hcz65_0 : w61.cell? ⟨gb541, 0, none⟩ = some (.int .i64 0) := (blk_cell BK541.out 0).trans rfl; have hcz65_1 : w61.cell? ⟨gb541, 1, none⟩ = some (.bool false) := (blk_cell BK541.out 1).trans rfl; have hcz65_2 : w61.cell? ⟨gb541, 2, none⟩ = some (.int .i64 0) := (blk_cell BK541.out 2).trans rfl; have hfz65_0 := blk_frozen BK541.out 0; have hfz65_1 := blk_frozen BK541.out 1; have hfz65_2 := blk_frozen BK541.out 2; have hcz66_0 : w61.cell? ⟨gb531, 0, none⟩ = some (.int .i64 t527) := (blk_cell BK531.out 0).trans rfl; have hcz66_1 : w61.cell? ⟨gb531, 1, none⟩ = some (.bool t528) := (blk_cell BK531.out 1).trans rfl; have hcz66_2 : w61.cell? ⟨gb531, 2, none⟩ = some (.int .i64 t529) := (blk_cell BK531.out 2).trans rfl; have hfz66_0 := blk_frozen BK531.out 0; have hfz66_1 := blk_frozen BK531.out 1; have hfz66_2 := blk_frozen BK531.out 2; have hcz67_0 : w61.cell? ⟨gb519, 0, none⟩ = some (.int .i64 t516) := (blk_cell BK519.out 0).trans rfl; have hcz67_1 : w61.cell? ⟨gb519, 1, none⟩ = some (.bool t517) := (blk_cell BK519.out 1).trans rfl; have hcz67_2 : w61.cell? ⟨gb519, 2, none⟩ = some (.int .i64 t518) := (blk_cell BK519.out 2).trans rfl; have hfz67_0 := blk_frozen BK519.out 0; have hfz67_1 := blk_frozen BK519.out 1; have hfz67_2 := blk_frozen BK519.out 2; have hcz68_0 : w61.cell? ⟨gb536, 0, none⟩ = some (.int .i64 t532) := (blk_cell BK536.out 0).trans rfl; have hcz68_1 : w61.cell? ⟨gb536, 1, none⟩ = some (.bool t533) := (blk_cell BK536.out 1).trans rfl; have hcz68_2 : w61.cell? ⟨gb536, 2, none⟩ = some (.int .i64 t534) := (blk_cell BK536.out 2).trans rfl; have hfz68_0 := blk_frozen BK536.out 0; have hfz68_1 := blk_frozen BK536.out 1; have hfz68_2 := blk_frozen BK536.out 2) | (go_at_call 13; (with_reducible refine (impl_LengthOf.calls kj5 t516 t517 t542 _ A50.out).mono ?_); rintro e w69 ⟨rfl, hb⟩; have n0_ := Aside0.mk (blk_below (g := gb519) (o := .cells #[.int .i64 t516, .bool t517, .int .i64 t518] 30 (0, 0)) (by (with_reducible repeat (first | refine blk_drewN ?_ _ | refine blk_drew ?_ | refine blk_alloc ?_ _)); refine blk_far ?_ NB519_541.out _; (with_reducible repeat (first | refine blk_drewN ?_ _ | refine blk_drew ?_ | refine blk_alloc ?_ _)); refine blk_far ?_ NB519_541.out _; (with_reducible repeat (first | refine blk_drewN ?_ _ | refine blk_drew ?_ | refine blk_alloc ?_ _)); refine blk_far ?_ NB519_541.out _; (with_reducible repeat (first | refine blk_drewN ?_ _ | refine blk_drew ?_ | refine blk_alloc ?_ _)); exact BK519.out) hb); have n1_ := Aside0.mk (blk_below (g := gb531) (o := .cells #[.int .i64 t527, .bool t528, .int .i64 t529] 30 (0, 0)) (by (with_reducible repeat (first | refine blk_drewN ?_ _ | refine blk_drew ?_ | refine blk_alloc ?_ _)); refine blk_far ?_ NB531_541.out _; (with_reducible repeat (first | refine blk_drewN ?_ _ | refine blk_drew ?_ | refine blk_alloc ?_ _)); refine blk_far ?_ NB531_541.out _; (with_reducible repeat (first | refine blk_drewN ?_ _ | refine blk_drew ?_ | refine blk_alloc ?_ _)); refine blk_far ?_ NB531_541.out _; (with_reducible repeat (first | refine blk_drewN ?_ _ | refine blk_drew ?_ | refine blk_alloc ?_ _)); exact BK531.out) hb); have n2_ := Aside0.mk (blk_below (g := gb536) (o := .cells #[.int .i64 t532, .bool t533, .int .i64 t534] 30 (0, 0)) (by (with_reducible repeat (first | refine blk_drewN ?_ _ | refine blk_drew ?_ | refine blk_alloc ?_ _)); refine blk_far ?_ NB536_541.out _; (with_reducible repeat (first | refine blk_drewN ?_ _ | refine blk_drew ?_ | refine blk_alloc ?_ _)); refine blk_far ?_ NB536_541.out _; (with_reducible repeat (first | refine blk_drewN ?_ _ | refine blk_drew ?_ | refine blk_alloc ?_ _)); refine blk_far ?_ NB536_541.out _; (with_reducible repeat (first | refine blk_drewN ?_ _ | refine blk_drew ?_ | refine blk_alloc ?_ _)); exact BK536.out) hb); have n3_ := Aside0.mk (blk_below (g := gb541) (o := .cells #[.int .i64 t537, .bool t538, .int .i64 t539] 30 (0, 0)) (by (with_reducible repeat (first | refine blk_drewN ?_ _ | refine blk_drew ?_ | refine blk_alloc ?_ _)); refine blk_put (cs := #[.int .i64 t537, .bool t538, .int .i64 0]) ?_ 2 _ rfl; (with_reducible repeat (first | refine blk_drewN ?_ _ | refine blk_drew ?_ | refine blk_alloc ?_ _)); refine blk_put (cs := #[.int .i64 t537, .bool false, .int .i64 0]) ?_ 1 _ rfl; (with_reducible repeat (first | refine blk_drewN ?_ _ | refine blk_drew ?_ | refine blk_alloc ?_ _)); refine blk_put (cs := #[.int .i64 0, .bool false, .int .i64 0]) ?_ 0 _ rfl; (with_reducible repeat (first | refine blk_drewN ?_ _ | refine blk_drew ?_ | refine blk_alloc ?_ _)); exact BK541.out) hb); have n4_ := Aside0.mk (below_step q11_ hb); clear BK519; clear BK531; clear BK536; clear BK541; clear HB; have BK519 := n0_; have BK531 := n1_; have BK536 := n2_; have BK541 := n3_; have HB := n4_; clear n0_ n1_ n2_ n3_ n4_; (try clear hb)))
              go_ret
              exact ⟨q31_, q11_⟩
             ·rw [if_neg c49] at H
              have c49b0 : (t540 == 0) = false := beq_eq_false_iff_ne.mpr c49
              have c49b1 : (t540 != 0) = true := bne_iff_ne.mpr c49
              obtain rfl := Option.some.inj H
              go_wp2_with (first | ((with_reducible refine gate_callee (f := 22) rfl ?_); refine goesL_ (some 45) rfl rfl Tryz.func22 (by kernel_rfl) rfl #[.string t520, .int .i64 0] rfl q56_ ?_; (with_reducible refine (impl_ReadIns.calls kj5 t520 0 t527 t528 t529 t530 _ A37.out).mono ?_); rintro e w70 ⟨rfl, hb⟩; refine ⟨_, rfl, ?_⟩; have n0_ := Aside0.mk (blk_below (g := gb519) (o := .cells #[.int .i64 t516, .bool t517, .int .i64 t518] 30 (0, 0)) q69_ hb); have n1_ := Aside0.mk (below_step q50_ hb); clear BK519; clear HB; have BK519 := n0_; have HB := n1_; clear n0_ n1_; (try clear hb)) | ((with_reducible refine gate_dst (N := 5) rfl ?_); (try (refine gate_guard (by rfl) ?_; dsimp only)); refine box_event ?hg (N := 5) ?hd (cs := #[.int .i64 0, .bool false, .int .i64 0]) (t := 30) ?hr ?_; (case hd => rfl); (case hg => rfl); (case hr => exact q114_); intro gb531 hg w71 hbox hb; have n0_ := Aside0.mk (blk_below (g := gb519) (o := .cells #[.int .i64 t516, .bool t517, .int .i64 t518] 30 (0, 0)) q69_ hb); have n1_ := Aside0.mk (below_step q50_ hb); have n2_ := Aside0.mk (hbox); have n3_ := Aside0.mk ((q34_ : w.heap.size ≤ gb531)); have n4_ := Aside0.mk ((q34_ : w.heap.size ≤ gb531)); have n5_ := Aside0.mk ((q14_ : gb519 ≠ gb531)); have n6_ := Aside0.mk ((q15_ : gb531 ≠ gb519)); clear BK519; clear HB; have BK519 := n0_; have HB := n1_; have BK531 := n2_; have GW531 := n3_; have GE531 := n4_; have NB519_531 := n5_; have NB531_519 := n6_; clear n0_ n1_ n2_ n3_ n4_ n5_ n6_; clear hb hbox hg; have hnb72 := NB531_519.out; have hnc72 := NB519_531.out; have hcz73_0 : w71.cell? ⟨gb531, 0, none⟩ = some (.int .i64 0) := (blk_cell BK531.out 0).trans rfl; have hcz73_1 : w71.cell? ⟨gb531, 1, none⟩ = some (.bool false) := (blk_cell BK531.out 1).trans rfl; have hcz73_2 : w71.cell? ⟨gb531, 2, none⟩ = some (.int .i64 0) := (blk_cell BK531.out 2).trans rfl; have hfz73_0 := blk_frozen BK531.out 0; have hfz73_1 := blk_frozen BK531.out 1; have hfz73_2 := blk_frozen BK531.out 2) | ((with_reducible refine gate_callee (f := 22) rfl ?_); refine goesL_ (some 52) rfl rfl Tryz.func22 (by kernel_rfl) rfl #[.string (((⟨#[120, 121]⟩ : ByteArray) ++ t520) ++ (⟨#[122]⟩ : ByteArray)), .int .i64 2] rfl q56_ ?_; (with_reducible refine (impl_ReadIns.calls kj5 (((⟨#[120, 121]⟩ : ByteArray) ++ t520) ++ (⟨#[122]⟩ : ByteArray)) 2 t532 t533 t534 t535 _ A40.out).mono ?_); rintro e w74 ⟨rfl, hb⟩; refine ⟨_, rfl, ?_⟩; have n0_ := Aside0.mk (blk_below (g := gb519) (o := .cells #[.int .i64 t516, .bool t517, .int .i64 t518] 30 (0, 0)) q3_ hb); have n1_ := Aside0.mk (blk_below (g := gb531) (o := .cells #[.int .i64 t527, .bool t528, .int .i64 t529] 30 (0, 0)) q0_ hb); have n2_ := Aside0.mk (below_step q36_ hb); clear BK519; clear BK531; clear HB; have BK519 := n0_; have BK531 := n1_; have HB := n2_; clear n0_ n1_ n2_; (try clear hb)) | ((with_reducible refine gate_dst (N := 7) rfl ?_); (try (refine gate_guard (by rfl) ?_; dsimp only)); refine box_event ?hg (N := 7) ?hd (cs := #[.int .i64 0, .bool false, .int .i64 0]) (t := 30) ?hr ?_; (case hd => rfl); (case hg => rfl); (case hr => exact q114_); intro gb536 hg w75 hbox hb; have n0_ := Aside0.mk (blk_below (g := gb519) (o := .cells #[.int .i64 t516, .bool t517, .int .i64 t518] 30 (0, 0)) q69_ hb); have n1_ := Aside0.mk (blk_below (g := gb531) (o := .cells #[.int .i64 t527, .bool t528, .int .i64 t529] 30 (0, 0)) q70_ hb); have n2_ := Aside0.mk (below_step q36_ hb); have n3_ := Aside0.mk (hbox); have n4_ := Aside0.mk ((q22_ : w.heap.size ≤ gb536)); have n5_ := Aside0.mk ((q22_ : w.heap.size ≤ gb536)); have n6_ := Aside0.mk ((q14_ : gb519 ≠ gb536)); have n7_ := Aside0.mk ((q15_ : gb536 ≠ gb519)); have n8_ := Aside0.mk ((q16_ : gb531 ≠ gb536)); have n9_ := Aside0.mk ((q17_ : gb536 ≠ gb531)); clear BK519; clear BK531; clear HB; have BK519 := n0_; have BK531 := n1_; have HB := n2_; have BK536 := n3_; have GW536 := n4_; have GE536 := n5_; have NB519_536 := n6_; have NB536_519 := n7_; have NB531_536 := n8_; have NB536_531 := n9_; clear n0_ n1_ n2_ n3_ n4_ n5_ n6_ n7_ n8_ n9_; clear hb hbox hg; have hnb76 := NB536_519.out; have hnc76 := NB519_536.out; have hnb77 := NB536_531.out; have hnc77 := NB531_536.out; have hcz78_0 : w75.cell? ⟨gb536, 0, none⟩ = some (.int .i64 0) := (blk_cell BK536.out 0).trans rfl; have hcz78_1 : w75.cell? ⟨gb536, 1, none⟩ = some (.bool false) := (blk_cell BK536.out 1).trans rfl; have hcz78_2 : w75.cell? ⟨gb536, 2, none⟩ = some (.int .i64 0) := (blk_cell BK536.out 2).trans rfl; have hfz78_0 := blk_frozen BK536.out 0; have hfz78_1 := blk_frozen BK536.out 1; have hfz78_2 := blk_frozen BK536.out 2) | ((with_reducible refine gate_callee (f := 22) rfl ?_); refine goesL_ (some 61) rfl rfl Tryz.func22 (by kernel_rfl) rfl #[.string (t520.extract 0 ((ji41) : Int).toNat), .int .i64 0] rfl q42_ ?_; (with_reducible refine (impl_ReadIns.calls kj5 (t520.extract 0 ((ji41) : Int).toNat) 0 t537 t538 t539 t540 _ A44.out).mono ?_); rintro e w79 ⟨rfl, hb⟩; refine ⟨_, rfl, ?_⟩; have n0_ := Aside0.mk (blk_below (g := gb519) (o := .cells #[.int .i64 t516, .bool t517, .int .i64 t518] 30 (0, 0)) q4_ hb); have n1_ := Aside0.mk (blk_below (g := gb531) (o := .cells #[.int .i64 t527, .bool t528, .int .i64 t529] 30 (0, 0)) q5_ hb); have n2_ := Aside0.mk (blk_below (g := gb536) (o := .cells #[.int .i64 t532, .bool t533, .int .i64 t534] 30 (0, 0)) q1_ hb); have n3_ := Aside0.mk (below_step q23_ hb); clear BK519; clear BK531; clear BK536; clear HB; have BK519 := n0_; have BK531 := n1_; have BK536 := n2_; have HB := n3_; clear n0_ n1_ n2_ n3_; (try clear hb)) | ((with_reducible refine gate_dst (N := 9) rfl ?_); (try (refine gate_guard (by rfl) ?_; dsimp only)); refine box_event ?hg (N := 9) ?hd (cs := #[.int .i64 0, .bool false, .int .i64 0]) (t := 30) ?hr ?_; (case hd => rfl); (case hg => rfl); (case hr => exact q114_); intro gb541 hg w80 hbox hb; have n0_ := Aside0.mk (blk_below (g := gb519) (o := .cells #[.int .i64 t516, .bool t517, .int .i64 t518] 30 (0, 0)) q69_ hb); have n1_ := Aside0.mk (blk_below (g := gb531) (o := .cells #[.int .i64 t527, .bool t528, .int .i64 t529] 30 (0, 0)) q70_ hb); have n2_ := Aside0.mk (blk_below (g := gb536) (o := .cells #[.int .i64 t532, .bool t533, .int .i64 t534] 30 (0, 0)) q71_ hb); have n3_ := Aside0.mk (below_step q23_ hb); have n4_ := Aside0.mk (hbox); have n5_ := Aside0.mk ((q10_ : w.heap.size ≤ gb541)); have n6_ := Aside0.mk ((q10_ : w.heap.size ≤ gb541)); have n7_ := Aside0.mk ((q14_ : gb519 ≠ gb541)); have n8_ := Aside0.mk ((q15_ : gb541 ≠ gb519)); have n9_ := Aside0.mk ((q16_ : gb531 ≠ gb541)); have n10_ := Aside0.mk ((q17_ : gb541 ≠ gb531)); have n11_ := Aside0.mk ((q18_ : gb536 ≠ gb541)); have n12_ := Aside0.mk ((q19_ : gb541 ≠ gb536)); clear BK519; clear BK531; clear BK536; clear HB; have BK519 := n0_; have BK531 := n1_; have BK536 := n2_; have HB := n3_; have BK541 := n4_; have GW541 := n5_; have GE541 := n6_; have NB519_541 := n7_; have NB541_519 := n8_; have NB531_541 := n9_; have NB541_531 := n10_; have NB536_541 := n11_; have NB541_536 := n12_; clear n0_ n1_ n2_ n3_ n4_ n5_ n6_ n7_ n8_ n9_ n10_ n11_ n12_; clear hb hbox hg; have hnb81 := NB541_519.out; have hnc81 := NB519_541.out; have hnb82 := NB541_531.out; have hnc82 := NB531_541.out; have hnb83 := NB541_536.out; have hnc83 := NB536_541.out; have hcz84_0 : w80.cell? ⟨gb541, 0, none⟩ = some (.int .i64 0) := (blk_cell BK541.out 0).trans rfl; have hcz84_1 : w80.cell? ⟨gb541, 1, none⟩ = some (.bool false) := (blk_cell BK541.out 1).trans rfl; have hcz84_2 : w80.cell? ⟨gb541, 2, none⟩ = some (.int .i64 0) := (blk_cell BK541.out 2).trans rfl; have hfz84_0 := blk_frozen BK541.out 0; have hfz84_1 := blk_frozen BK541.out 1; have hfz84_2 := blk_frozen BK541.out 2; have hcz85_0 : w80.cell? ⟨gb531, 0, none⟩ = some (.int .i64 t527) := (blk_cell BK531.out 0).trans rfl; have hcz85_1 : w80.cell? ⟨gb531, 1, none⟩ = some (.bool t528) := (blk_cell BK531.out 1).trans rfl; have hcz85_2 : w80.cell? ⟨gb531, 2, none⟩ = some (.int .i64 t529) := (blk_cell BK531.out 2).trans rfl; have hfz85_0 := blk_frozen BK531.out 0; have hfz85_1 := blk_frozen BK531.out 1; have hfz85_2 := blk_frozen BK531.out 2; have hcz86_0 : w80.cell? ⟨gb519, 0, none⟩ = some (.int .i64 t516) := (blk_cell BK519.out 0).trans rfl; have hcz86_1 : w80.cell? ⟨gb519, 1, none⟩ = some (.bool t517) := (blk_cell BK519.out 1).trans rfl; have hcz86_2 : w80.cell? ⟨gb519, 2, none⟩ = some (.int .i64 t518) := (blk_cell BK519.out 2).trans rfl; have hfz86_0 := blk_frozen BK519.out 0; have hfz86_1 := blk_frozen BK519.out 1; have hfz86_2 := blk_frozen BK519.out 2; have hcz87_0 : w80.cell? ⟨gb536, 0, none⟩ = some (.int .i64 t532) := (blk_cell BK536.out 0).trans rfl; have hcz87_1 : w80.cell? ⟨gb536, 1, none⟩ = some (.bool t533) := (blk_cell BK536.out 1).trans rfl; have hcz87_2 : w80.cell? ⟨gb536, 2, none⟩ = some (.int .i64 t534) := (blk_cell BK536.out 2).trans rfl; have hfz87_0 := blk_frozen BK536.out 0; have hfz87_1 := blk_frozen BK536.out 1; have hfz87_2 := blk_frozen BK536.out 2))
              go_ret
              exact ⟨q31_, q11_⟩
            ·rw [if_neg c48] at H
             have c48b0 : (t535 == t530) = false := beq_eq_false_iff_ne.mpr c48
             have c48b1 : (t535 != t530) = true := bne_iff_ne.mpr c48
             obtain rfl := Option.some.inj H
             go_wp2_with (first | ((with_reducible refine gate_callee (f := 22) rfl ?_); refine goesL_ (some 45) rfl rfl Tryz.func22 (by kernel_rfl) rfl #[.string t520, .int .i64 0] rfl q56_ ?_; (with_reducible refine (impl_ReadIns.calls kj5 t520 0 t527 t528 t529 t530 _ A37.out).mono ?_); rintro e w88 ⟨rfl, hb⟩; refine ⟨_, rfl, ?_⟩; have n0_ := Aside0.mk (blk_below (g := gb519) (o := .cells #[.int .i64 t516, .bool t517, .int .i64 t518] 30 (0, 0)) q69_ hb); have n1_ := Aside0.mk (below_step q50_ hb); clear BK519; clear HB; have BK519 := n0_; have HB := n1_; clear n0_ n1_; (try clear hb)) | ((with_reducible refine gate_dst (N := 5) rfl ?_); (try (refine gate_guard (by rfl) ?_; dsimp only)); refine box_event ?hg (N := 5) ?hd (cs := #[.int .i64 0, .bool false, .int .i64 0]) (t := 30) ?hr ?_; (case hd => rfl); (case hg => rfl); (case hr => exact q114_); intro gb531 hg w89 hbox hb; have n0_ := Aside0.mk (blk_below (g := gb519) (o := .cells #[.int .i64 t516, .bool t517, .int .i64 t518] 30 (0, 0)) q69_ hb); have n1_ := Aside0.mk (below_step q50_ hb); have n2_ := Aside0.mk (hbox); have n3_ := Aside0.mk ((q34_ : w.heap.size ≤ gb531)); have n4_ := Aside0.mk ((q34_ : w.heap.size ≤ gb531)); have n5_ := Aside0.mk ((q14_ : gb519 ≠ gb531)); have n6_ := Aside0.mk ((q15_ : gb531 ≠ gb519)); clear BK519; clear HB; have BK519 := n0_; have HB := n1_; have BK531 := n2_; have GW531 := n3_; have GE531 := n4_; have NB519_531 := n5_; have NB531_519 := n6_; clear n0_ n1_ n2_ n3_ n4_ n5_ n6_; clear hb hbox hg; have hnb90 := NB531_519.out; have hnc90 := NB519_531.out; have hcz91_0 : w89.cell? ⟨gb531, 0, none⟩ = some (.int .i64 0) := (blk_cell BK531.out 0).trans rfl; have hcz91_1 : w89.cell? ⟨gb531, 1, none⟩ = some (.bool false) := (blk_cell BK531.out 1).trans rfl; have hcz91_2 : w89.cell? ⟨gb531, 2, none⟩ = some (.int .i64 0) := (blk_cell BK531.out 2).trans rfl; have hfz91_0 := blk_frozen BK531.out 0; have hfz91_1 := blk_frozen BK531.out 1; have hfz91_2 := blk_frozen BK531.out 2) | ((with_reducible refine gate_callee (f := 22) rfl ?_); refine goesL_ (some 52) rfl rfl Tryz.func22 (by kernel_rfl) rfl #[.string (((⟨#[120, 121]⟩ : ByteArray) ++ t520) ++ (⟨#[122]⟩ : ByteArray)), .int .i64 2] rfl q56_ ?_; (with_reducible refine (impl_ReadIns.calls kj5 (((⟨#[120, 121]⟩ : ByteArray) ++ t520) ++ (⟨#[122]⟩ : ByteArray)) 2 t532 t533 t534 t535 _ A40.out).mono ?_); rintro e w92 ⟨rfl, hb⟩; refine ⟨_, rfl, ?_⟩; have n0_ := Aside0.mk (blk_below (g := gb519) (o := .cells #[.int .i64 t516, .bool t517, .int .i64 t518] 30 (0, 0)) q3_ hb); have n1_ := Aside0.mk (blk_below (g := gb531) (o := .cells #[.int .i64 t527, .bool t528, .int .i64 t529] 30 (0, 0)) q0_ hb); have n2_ := Aside0.mk (below_step q36_ hb); clear BK519; clear BK531; clear HB; have BK519 := n0_; have BK531 := n1_; have HB := n2_; clear n0_ n1_ n2_; (try clear hb)) | ((with_reducible refine gate_dst (N := 7) rfl ?_); (try (refine gate_guard (by rfl) ?_; dsimp only)); refine box_event ?hg (N := 7) ?hd (cs := #[.int .i64 0, .bool false, .int .i64 0]) (t := 30) ?hr ?_; (case hd => rfl); (case hg => rfl); (case hr => exact q114_); intro gb536 hg w93 hbox hb; have n0_ := Aside0.mk (blk_below (g := gb519) (o := .cells #[.int .i64 t516, .bool t517, .int .i64 t518] 30 (0, 0)) q69_ hb); have n1_ := Aside0.mk (blk_below (g := gb531) (o := .cells #[.int .i64 t527, .bool t528, .int .i64 t529] 30 (0, 0)) q70_ hb); have n2_ := Aside0.mk (below_step q36_ hb); have n3_ := Aside0.mk (hbox); have n4_ := Aside0.mk ((q22_ : w.heap.size ≤ gb536)); have n5_ := Aside0.mk ((q22_ : w.heap.size ≤ gb536)); have n6_ := Aside0.mk ((q14_ : gb519 ≠ gb536)); have n7_ := Aside0.mk ((q15_ : gb536 ≠ gb519)); have n8_ := Aside0.mk ((q16_ : gb531 ≠ gb536)); have n9_ := Aside0.mk ((q17_ : gb536 ≠ gb531)); clear BK519; clear BK531; clear HB; have BK519 := n0_; have BK531 := n1_; have HB := n2_; have BK536 := n3_; have GW536 := n4_; have GE536 := n5_; have NB519_536 := n6_; have NB536_519 := n7_; have NB531_536 := n8_; have NB536_531 := n9_; clear n0_ n1_ n2_ n3_ n4_ n5_ n6_ n7_ n8_ n9_; clear hb hbox hg; have hnb94 := NB536_519.out; have hnc94 := NB519_536.out; have hnb95 := NB536_531.out; have hnc95 := NB531_536.out; have hcz96_0 : w93.cell? ⟨gb536, 0, none⟩ = some (.int .i64 0) := (blk_cell BK536.out 0).trans rfl; have hcz96_1 : w93.cell? ⟨gb536, 1, none⟩ = some (.bool false) := (blk_cell BK536.out 1).trans rfl; have hcz96_2 : w93.cell? ⟨gb536, 2, none⟩ = some (.int .i64 0) := (blk_cell BK536.out 2).trans rfl; have hfz96_0 := blk_frozen BK536.out 0; have hfz96_1 := blk_frozen BK536.out 1; have hfz96_2 := blk_frozen BK536.out 2) | ((with_reducible refine gate_callee (f := 22) rfl ?_); refine goesL_ (some 61) rfl rfl Tryz.func22 (by kernel_rfl) rfl #[.string (t520.extract 0 ((ji41) : Int).toNat), .int .i64 0] rfl q42_ ?_; (with_reducible refine (impl_ReadIns.calls kj5 (t520.extract 0 ((ji41) : Int).toNat) 0 t537 t538 t539 t540 _ A44.out).mono ?_); rintro e w97 ⟨rfl, hb⟩; refine ⟨_, rfl, ?_⟩; have n0_ := Aside0.mk (blk_below (g := gb519) (o := .cells #[.int .i64 t516, .bool t517, .int .i64 t518] 30 (0, 0)) q4_ hb); have n1_ := Aside0.mk (blk_below (g := gb531) (o := .cells #[.int .i64 t527, .bool t528, .int .i64 t529] 30 (0, 0)) q5_ hb); have n2_ := Aside0.mk (blk_below (g := gb536) (o := .cells #[.int .i64 t532, .bool t533, .int .i64 t534] 30 (0, 0)) q1_ hb); have n3_ := Aside0.mk (below_step q23_ hb); clear BK519; clear BK531; clear BK536; clear HB; have BK519 := n0_; have BK531 := n1_; have BK536 := n2_; have HB := n3_; clear n0_ n1_ n2_ n3_; (try clear hb)) | ((with_reducible refine gate_dst (N := 9) rfl ?_); (try (refine gate_guard (by rfl) ?_; dsimp only)); refine box_event ?hg (N := 9) ?hd (cs := #[.int .i64 0, .bool false, .int .i64 0]) (t := 30) ?hr ?_; (case hd => rfl); (case hg => rfl); (case hr => exact q114_); intro gb541 hg w98 hbox hb; have n0_ := Aside0.mk (blk_below (g := gb519) (o := .cells #[.int .i64 t516, .bool t517, .int .i64 t518] 30 (0, 0)) q69_ hb); have n1_ := Aside0.mk (blk_below (g := gb531) (o := .cells #[.int .i64 t527, .bool t528, .int .i64 t529] 30 (0, 0)) q70_ hb); have n2_ := Aside0.mk (blk_below (g := gb536) (o := .cells #[.int .i64 t532, .bool t533, .int .i64 t534] 30 (0, 0)) q71_ hb); have n3_ := Aside0.mk (below_step q23_ hb); have n4_ := Aside0.mk (hbox); have n5_ := Aside0.mk ((q10_ : w.heap.size ≤ gb541)); have n6_ := Aside0.mk ((q10_ : w.heap.size ≤ gb541)); have n7_ := Aside0.mk ((q14_ : gb519 ≠ gb541)); have n8_ := Aside0.mk ((q15_ : gb541 ≠ gb519)); have n9_ := Aside0.mk ((q16_ : gb531 ≠ gb541)); have n10_ := Aside0.mk ((q17_ : gb541 ≠ gb531)); have n11_ := Aside0.mk ((q18_ : gb536 ≠ gb541)); have n12_ := Aside0.mk ((q19_ : gb541 ≠ gb536)); clear BK519; clear BK531; clear BK536; clear HB; have BK519 := n0_; have BK531 := n1_; have BK536 := n2_; have HB := n3_; have BK541 := n4_; have GW541 := n5_; have GE541 := n6_; have NB519_541 := n7_; have NB541_519 := n8_; have NB531_541 := n9_; have NB541_531 := n10_; have NB536_541 := n11_; have NB541_536 := n12_; clear n0_ n1_ n2_ n3_ n4_ n5_ n6_ n7_ n8_ n9_ n10_ n11_ n12_; clear hb hbox hg; have hnb99 := NB541_519.out; have hnc99 := NB519_541.out; have hnb100 := NB541_531.out; have hnc100 := NB531_541.out; have hnb101 := NB541_536.out; have hnc101 := NB536_541.out; have hcz102_0 : w98.cell? ⟨gb541, 0, none⟩ = some (.int .i64 0) := (blk_cell BK541.out 0).trans rfl; have hcz102_1 : w98.cell? ⟨gb541, 1, none⟩ = some (.bool false) := (blk_cell BK541.out 1).trans rfl; have hcz102_2 : w98.cell? ⟨gb541, 2, none⟩ = some (.int .i64 0) := (blk_cell BK541.out 2).trans rfl; have hfz102_0 := blk_frozen BK541.out 0; have hfz102_1 := blk_frozen BK541.out 1; have hfz102_2 := blk_frozen BK541.out 2; have hcz103_0 : w98.cell? ⟨gb531, 0, none⟩ = some (.int .i64 t527) := (blk_cell BK531.out 0).trans rfl; have hcz103_1 : w98.cell? ⟨gb531, 1, none⟩ = some (.bool t528) := (blk_cell BK531.out 1).trans rfl; have hcz103_2 : w98.cell? ⟨gb531, 2, none⟩ = some (.int .i64 t529) := (blk_cell BK531.out 2).trans rfl; have hfz103_0 := blk_frozen BK531.out 0; have hfz103_1 := blk_frozen BK531.out 1; have hfz103_2 := blk_frozen BK531.out 2; have hcz104_0 : w98.cell? ⟨gb519, 0, none⟩ = some (.int .i64 t516) := (blk_cell BK519.out 0).trans rfl; have hcz104_1 : w98.cell? ⟨gb519, 1, none⟩ = some (.bool t517) := (blk_cell BK519.out 1).trans rfl; have hcz104_2 : w98.cell? ⟨gb519, 2, none⟩ = some (.int .i64 t518) := (blk_cell BK519.out 2).trans rfl; have hfz104_0 := blk_frozen BK519.out 0; have hfz104_1 := blk_frozen BK519.out 1; have hfz104_2 := blk_frozen BK519.out 2; have hcz105_0 : w98.cell? ⟨gb536, 0, none⟩ = some (.int .i64 t532) := (blk_cell BK536.out 0).trans rfl; have hcz105_1 : w98.cell? ⟨gb536, 1, none⟩ = some (.bool t533) := (blk_cell BK536.out 1).trans rfl; have hcz105_2 : w98.cell? ⟨gb536, 2, none⟩ = some (.int .i64 t534) := (blk_cell BK536.out 2).trans rfl; have hfz105_0 := blk_frozen BK536.out 0; have hfz105_1 := blk_frozen BK536.out 1; have hfz105_2 := blk_frozen BK536.out 2))
             go_ret
             exact ⟨q31_, q11_⟩
           ·rw [if_neg c47] at H
            have c47b0 : (t532 == t516 && (t533 == t517 && (t534 == t518))) = false := by simpa using c47
            (try (have c47b1 : decide (t532 = t516 && (t533 == t517 && (t534 == t518))) = false := by simpa using c47))
            (try (have c47b2 : (t532 == t516 && (t533 == t517 && (t534 == t518))) = false := by simpa using c47))
            (try (have c47b3 : ¬ (t532 = t516 && (t533 == t517 && (t534 == t518))) := by simpa using c47))
            clear c47
            obtain rfl := Option.some.inj H
            go_wp2_with (first | ((with_reducible refine gate_callee (f := 22) rfl ?_); refine goesL_ (some 45) rfl rfl Tryz.func22 (by kernel_rfl) rfl #[.string t520, .int .i64 0] rfl q56_ ?_; (with_reducible refine (impl_ReadIns.calls kj5 t520 0 t527 t528 t529 t530 _ A37.out).mono ?_); rintro e w106 ⟨rfl, hb⟩; refine ⟨_, rfl, ?_⟩; have n0_ := Aside0.mk (blk_below (g := gb519) (o := .cells #[.int .i64 t516, .bool t517, .int .i64 t518] 30 (0, 0)) q69_ hb); have n1_ := Aside0.mk (below_step q50_ hb); clear BK519; clear HB; have BK519 := n0_; have HB := n1_; clear n0_ n1_; (try clear hb)) | ((with_reducible refine gate_dst (N := 5) rfl ?_); (try (refine gate_guard (by rfl) ?_; dsimp only)); refine box_event ?hg (N := 5) ?hd (cs := #[.int .i64 0, .bool false, .int .i64 0]) (t := 30) ?hr ?_; (case hd => rfl); (case hg => rfl); (case hr => exact q114_); intro gb531 hg w107 hbox hb; have n0_ := Aside0.mk (blk_below (g := gb519) (o := .cells #[.int .i64 t516, .bool t517, .int .i64 t518] 30 (0, 0)) q69_ hb); have n1_ := Aside0.mk (below_step q50_ hb); have n2_ := Aside0.mk (hbox); have n3_ := Aside0.mk ((q34_ : w.heap.size ≤ gb531)); have n4_ := Aside0.mk ((q34_ : w.heap.size ≤ gb531)); have n5_ := Aside0.mk ((q14_ : gb519 ≠ gb531)); have n6_ := Aside0.mk ((q15_ : gb531 ≠ gb519)); clear BK519; clear HB; have BK519 := n0_; have HB := n1_; have BK531 := n2_; have GW531 := n3_; have GE531 := n4_; have NB519_531 := n5_; have NB531_519 := n6_; clear n0_ n1_ n2_ n3_ n4_ n5_ n6_; clear hb hbox hg; have hnb108 := NB531_519.out; have hnc108 := NB519_531.out; have hcz109_0 : w107.cell? ⟨gb531, 0, none⟩ = some (.int .i64 0) := (blk_cell BK531.out 0).trans rfl; have hcz109_1 : w107.cell? ⟨gb531, 1, none⟩ = some (.bool false) := (blk_cell BK531.out 1).trans rfl; have hcz109_2 : w107.cell? ⟨gb531, 2, none⟩ = some (.int .i64 0) := (blk_cell BK531.out 2).trans rfl; have hfz109_0 := blk_frozen BK531.out 0; have hfz109_1 := blk_frozen BK531.out 1; have hfz109_2 := blk_frozen BK531.out 2) | ((with_reducible refine gate_callee (f := 22) rfl ?_); refine goesL_ (some 52) rfl rfl Tryz.func22 (by kernel_rfl) rfl #[.string (((⟨#[120, 121]⟩ : ByteArray) ++ t520) ++ (⟨#[122]⟩ : ByteArray)), .int .i64 2] rfl q56_ ?_; (with_reducible refine (impl_ReadIns.calls kj5 (((⟨#[120, 121]⟩ : ByteArray) ++ t520) ++ (⟨#[122]⟩ : ByteArray)) 2 t532 t533 t534 t535 _ A40.out).mono ?_); rintro e w110 ⟨rfl, hb⟩; refine ⟨_, rfl, ?_⟩; have n0_ := Aside0.mk (blk_below (g := gb519) (o := .cells #[.int .i64 t516, .bool t517, .int .i64 t518] 30 (0, 0)) q3_ hb); have n1_ := Aside0.mk (blk_below (g := gb531) (o := .cells #[.int .i64 t527, .bool t528, .int .i64 t529] 30 (0, 0)) q0_ hb); have n2_ := Aside0.mk (below_step q36_ hb); clear BK519; clear BK531; clear HB; have BK519 := n0_; have BK531 := n1_; have HB := n2_; clear n0_ n1_ n2_; (try clear hb)) | ((with_reducible refine gate_dst (N := 7) rfl ?_); (try (refine gate_guard (by rfl) ?_; dsimp only)); refine box_event ?hg (N := 7) ?hd (cs := #[.int .i64 0, .bool false, .int .i64 0]) (t := 30) ?hr ?_; (case hd => rfl); (case hg => rfl); (case hr => exact q114_); intro gb536 hg w111 hbox hb; have n0_ := Aside0.mk (blk_below (g := gb519) (o := .cells #[.int .i64 t516, .bool t517, .int .i64 t518] 30 (0, 0)) q69_ hb); have n1_ := Aside0.mk (blk_below (g := gb531) (o := .cells #[.int .i64 t527, .bool t528, .int .i64 t529] 30 (0, 0)) q70_ hb); have n2_ := Aside0.mk (below_step q36_ hb); have n3_ := Aside0.mk (hbox); have n4_ := Aside0.mk ((q22_ : w.heap.size ≤ gb536)); have n5_ := Aside0.mk ((q22_ : w.heap.size ≤ gb536)); have n6_ := Aside0.mk ((q14_ : gb519 ≠ gb536)); have n7_ := Aside0.mk ((q15_ : gb536 ≠ gb519)); have n8_ := Aside0.mk ((q16_ : gb531 ≠ gb536)); have n9_ := Aside0.mk ((q17_ : gb536 ≠ gb531)); clear BK519; clear BK531; clear HB; have BK519 := n0_; have BK531 := n1_; have HB := n2_; have BK536 := n3_; have GW536 := n4_; have GE536 := n5_; have NB519_536 := n6_; have NB536_519 := n7_; have NB531_536 := n8_; have NB536_531 := n9_; clear n0_ n1_ n2_ n3_ n4_ n5_ n6_ n7_ n8_ n9_; clear hb hbox hg; have hnb112 := NB536_519.out; have hnc112 := NB519_536.out; have hnb113 := NB536_531.out; have hnc113 := NB531_536.out; have hcz114_0 : w111.cell? ⟨gb536, 0, none⟩ = some (.int .i64 0) := (blk_cell BK536.out 0).trans rfl; have hcz114_1 : w111.cell? ⟨gb536, 1, none⟩ = some (.bool false) := (blk_cell BK536.out 1).trans rfl; have hcz114_2 : w111.cell? ⟨gb536, 2, none⟩ = some (.int .i64 0) := (blk_cell BK536.out 2).trans rfl; have hfz114_0 := blk_frozen BK536.out 0; have hfz114_1 := blk_frozen BK536.out 1; have hfz114_2 := blk_frozen BK536.out 2) | ((with_reducible refine gate_callee (f := 22) rfl ?_); refine goesL_ (some 61) rfl rfl Tryz.func22 (by kernel_rfl) rfl #[.string (t520.extract 0 ((ji41) : Int).toNat), .int .i64 0] rfl q42_ ?_; (with_reducible refine (impl_ReadIns.calls kj5 (t520.extract 0 ((ji41) : Int).toNat) 0 t537 t538 t539 t540 _ A44.out).mono ?_); rintro e w115 ⟨rfl, hb⟩; refine ⟨_, rfl, ?_⟩; have n0_ := Aside0.mk (blk_below (g := gb519) (o := .cells #[.int .i64 t516, .bool t517, .int .i64 t518] 30 (0, 0)) q4_ hb); have n1_ := Aside0.mk (blk_below (g := gb531) (o := .cells #[.int .i64 t527, .bool t528, .int .i64 t529] 30 (0, 0)) q5_ hb); have n2_ := Aside0.mk (blk_below (g := gb536) (o := .cells #[.int .i64 t532, .bool t533, .int .i64 t534] 30 (0, 0)) q1_ hb); have n3_ := Aside0.mk (below_step q23_ hb); clear BK519; clear BK531; clear BK536; clear HB; have BK519 := n0_; have BK531 := n1_; have BK536 := n2_; have HB := n3_; clear n0_ n1_ n2_ n3_; (try clear hb)) | ((with_reducible refine gate_dst (N := 9) rfl ?_); (try (refine gate_guard (by rfl) ?_; dsimp only)); refine box_event ?hg (N := 9) ?hd (cs := #[.int .i64 0, .bool false, .int .i64 0]) (t := 30) ?hr ?_; (case hd => rfl); (case hg => rfl); (case hr => exact q114_); intro gb541 hg w116 hbox hb; have n0_ := Aside0.mk (blk_below (g := gb519) (o := .cells #[.int .i64 t516, .bool t517, .int .i64 t518] 30 (0, 0)) q69_ hb); have n1_ := Aside0.mk (blk_below (g := gb531) (o := .cells #[.int .i64 t527, .bool t528, .int .i64 t529] 30 (0, 0)) q70_ hb); have n2_ := Aside0.mk (blk_below (g := gb536) (o := .cells #[.int .i64 t532, .bool t533, .int .i64 t534] 30 (0, 0)) q71_ hb); have n3_ := Aside0.mk (below_step q23_ hb); have n4_ := Aside0.mk (hbox); have n5_ := Aside0.mk ((q10_ : w.heap.size ≤ gb541)); have n6_ := Aside0.mk ((q10_ : w.heap.size ≤ gb541)); have n7_ := Aside0.mk ((q14_ : gb519 ≠ gb541)); have n8_ := Aside0.mk ((q15_ : gb541 ≠ gb519)); have n9_ := Aside0.mk ((q16_ : gb531 ≠ gb541)); have n10_ := Aside0.mk ((q17_ : gb541 ≠ gb531)); have n11_ := Aside0.mk ((q18_ : gb536 ≠ gb541)); have n12_ := Aside0.mk ((q19_ : gb541 ≠ gb536)); clear BK519; clear BK531; clear BK536; clear HB; have BK519 := n0_; have BK531 := n1_; have BK536 := n2_; have HB := n3_; have BK541 := n4_; have GW541 := n5_; have GE541 := n6_; have NB519_541 := n7_; have NB541_519 := n8_; have NB531_541 := n9_; have NB541_531 := n10_; have NB536_541 := n11_; have NB541_536 := n12_; clear n0_ n1_ n2_ n3_ n4_ n5_ n6_ n7_ n8_ n9_ n10_ n11_ n12_; clear hb hbox hg; have hnb117 := NB541_519.out; have hnc117 := NB519_541.out; have hnb118 := NB541_531.out; have hnc118 := NB531_541.out; have hnb119 := NB541_536.out; have hnc119 := NB536_541.out; have hcz120_0 : w116.cell? ⟨gb541, 0, none⟩ = some (.int .i64 0) := (blk_cell BK541.out 0).trans rfl; have hcz120_1 : w116.cell? ⟨gb541, 1, none⟩ = some (.bool false) := (blk_cell BK541.out 1).trans rfl; have hcz120_2 : w116.cell? ⟨gb541, 2, none⟩ = some (.int .i64 0) := (blk_cell BK541.out 2).trans rfl; have hfz120_0 := blk_frozen BK541.out 0; have hfz120_1 := blk_frozen BK541.out 1; have hfz120_2 := blk_frozen BK541.out 2; have hcz121_0 : w116.cell? ⟨gb531, 0, none⟩ = some (.int .i64 t527) := (blk_cell BK531.out 0).trans rfl; have hcz121_1 : w116.cell? ⟨gb531, 1, none⟩ = some (.bool t528) := (blk_cell BK531.out 1).trans rfl; have hcz121_2 : w116.cell? ⟨gb531, 2, none⟩ = some (.int .i64 t529) := (blk_cell BK531.out 2).trans rfl; have hfz121_0 := blk_frozen BK531.out 0; have hfz121_1 := blk_frozen BK531.out 1; have hfz121_2 := blk_frozen BK531.out 2; have hcz122_0 : w116.cell? ⟨gb519, 0, none⟩ = some (.int .i64 t516) := (blk_cell BK519.out 0).trans rfl; have hcz122_1 : w116.cell? ⟨gb519, 1, none⟩ = some (.bool t517) := (blk_cell BK519.out 1).trans rfl; have hcz122_2 : w116.cell? ⟨gb519, 2, none⟩ = some (.int .i64 t518) := (blk_cell BK519.out 2).trans rfl; have hfz122_0 := blk_frozen BK519.out 0; have hfz122_1 := blk_frozen BK519.out 1; have hfz122_2 := blk_frozen BK519.out 2; have hcz123_0 : w116.cell? ⟨gb536, 0, none⟩ = some (.int .i64 t532) := (blk_cell BK536.out 0).trans rfl; have hcz123_1 : w116.cell? ⟨gb536, 1, none⟩ = some (.bool t533) := (blk_cell BK536.out 1).trans rfl; have hcz123_2 : w116.cell? ⟨gb536, 2, none⟩ = some (.int .i64 t534) := (blk_cell BK536.out 2).trans rfl; have hfz123_0 := blk_frozen BK536.out 0; have hfz123_1 := blk_frozen BK536.out 1; have hfz123_2 := blk_frozen BK536.out 2))
            go_ret
            exact ⟨q31_, q11_⟩
          ·rw [if_neg c46] at H
           have c46b0 : (t530 == (t520.size : Int)) = false := beq_eq_false_iff_ne.mpr c46
           have c46b1 : (t530 != (t520.size : Int)) = true := bne_iff_ne.mpr c46
           obtain rfl := Option.some.inj H
           go_wp2_with (first | ((with_reducible refine gate_callee (f := 22) rfl ?_); refine goesL_ (some 45) rfl rfl Tryz.func22 (by kernel_rfl) rfl #[.string t520, .int .i64 0] rfl q56_ ?_; (with_reducible refine (impl_ReadIns.calls kj5 t520 0 t527 t528 t529 t530 _ A37.out).mono ?_); rintro e w124 ⟨rfl, hb⟩; refine ⟨_, rfl, ?_⟩; have n0_ := Aside0.mk (blk_below (g := gb519) (o := .cells #[.int .i64 t516, .bool t517, .int .i64 t518] 30 (0, 0)) q69_ hb); have n1_ := Aside0.mk (below_step q50_ hb); clear BK519; clear HB; have BK519 := n0_; have HB := n1_; clear n0_ n1_; (try clear hb)) | ((with_reducible refine gate_dst (N := 5) rfl ?_); (try (refine gate_guard (by rfl) ?_; dsimp only)); refine box_event ?hg (N := 5) ?hd (cs := #[.int .i64 0, .bool false, .int .i64 0]) (t := 30) ?hr ?_; (case hd => rfl); (case hg => rfl); (case hr => exact q114_); intro gb531 hg w125 hbox hb; have n0_ := Aside0.mk (blk_below (g := gb519) (o := .cells #[.int .i64 t516, .bool t517, .int .i64 t518] 30 (0, 0)) q69_ hb); have n1_ := Aside0.mk (below_step q50_ hb); have n2_ := Aside0.mk (hbox); have n3_ := Aside0.mk ((q34_ : w.heap.size ≤ gb531)); have n4_ := Aside0.mk ((q34_ : w.heap.size ≤ gb531)); have n5_ := Aside0.mk ((q14_ : gb519 ≠ gb531)); have n6_ := Aside0.mk ((q15_ : gb531 ≠ gb519)); clear BK519; clear HB; have BK519 := n0_; have HB := n1_; have BK531 := n2_; have GW531 := n3_; have GE531 := n4_; have NB519_531 := n5_; have NB531_519 := n6_; clear n0_ n1_ n2_ n3_ n4_ n5_ n6_; clear hb hbox hg; have hnb126 := NB531_519.out; have hnc126 := NB519_531.out; have hcz127_0 : w125.cell? ⟨gb531, 0, none⟩ = some (.int .i64 0) := (blk_cell BK531.out 0).trans rfl; have hcz127_1 : w125.cell? ⟨gb531, 1, none⟩ = some (.bool false) := (blk_cell BK531.out 1).trans rfl; have hcz127_2 : w125.cell? ⟨gb531, 2, none⟩ = some (.int .i64 0) := (blk_cell BK531.out 2).trans rfl; have hfz127_0 := blk_frozen BK531.out 0; have hfz127_1 := blk_frozen BK531.out 1; have hfz127_2 := blk_frozen BK531.out 2) | ((with_reducible refine gate_callee (f := 22) rfl ?_); refine goesL_ (some 52) rfl rfl Tryz.func22 (by kernel_rfl) rfl #[.string (((⟨#[120, 121]⟩ : ByteArray) ++ t520) ++ (⟨#[122]⟩ : ByteArray)), .int .i64 2] rfl q56_ ?_; (with_reducible refine (impl_ReadIns.calls kj5 (((⟨#[120, 121]⟩ : ByteArray) ++ t520) ++ (⟨#[122]⟩ : ByteArray)) 2 t532 t533 t534 t535 _ A40.out).mono ?_); rintro e w128 ⟨rfl, hb⟩; refine ⟨_, rfl, ?_⟩; have n0_ := Aside0.mk (blk_below (g := gb519) (o := .cells #[.int .i64 t516, .bool t517, .int .i64 t518] 30 (0, 0)) q3_ hb); have n1_ := Aside0.mk (blk_below (g := gb531) (o := .cells #[.int .i64 t527, .bool t528, .int .i64 t529] 30 (0, 0)) q0_ hb); have n2_ := Aside0.mk (below_step q36_ hb); clear BK519; clear BK531; clear HB; have BK519 := n0_; have BK531 := n1_; have HB := n2_; clear n0_ n1_ n2_; (try clear hb)) | ((with_reducible refine gate_dst (N := 7) rfl ?_); (try (refine gate_guard (by rfl) ?_; dsimp only)); refine box_event ?hg (N := 7) ?hd (cs := #[.int .i64 0, .bool false, .int .i64 0]) (t := 30) ?hr ?_; (case hd => rfl); (case hg => rfl); (case hr => exact q114_); intro gb536 hg w129 hbox hb; have n0_ := Aside0.mk (blk_below (g := gb519) (o := .cells #[.int .i64 t516, .bool t517, .int .i64 t518] 30 (0, 0)) q69_ hb); have n1_ := Aside0.mk (blk_below (g := gb531) (o := .cells #[.int .i64 t527, .bool t528, .int .i64 t529] 30 (0, 0)) q70_ hb); have n2_ := Aside0.mk (below_step q36_ hb); have n3_ := Aside0.mk (hbox); have n4_ := Aside0.mk ((q22_ : w.heap.size ≤ gb536)); have n5_ := Aside0.mk ((q22_ : w.heap.size ≤ gb536)); have n6_ := Aside0.mk ((q14_ : gb519 ≠ gb536)); have n7_ := Aside0.mk ((q15_ : gb536 ≠ gb519)); have n8_ := Aside0.mk ((q16_ : gb531 ≠ gb536)); have n9_ := Aside0.mk ((q17_ : gb536 ≠ gb531)); clear BK519; clear BK531; clear HB; have BK519 := n0_; have BK531 := n1_; have HB := n2_; have BK536 := n3_; have GW536 := n4_; have GE536 := n5_; have NB519_536 := n6_; have NB536_519 := n7_; have NB531_536 := n8_; have NB536_531 := n9_; clear n0_ n1_ n2_ n3_ n4_ n5_ n6_ n7_ n8_ n9_; clear hb hbox hg; have hnb130 := NB536_519.out; have hnc130 := NB519_536.out; have hnb131 := NB536_531.out; have hnc131 := NB531_536.out; have hcz132_0 : w129.cell? ⟨gb536, 0, none⟩ = some (.int .i64 0) := (blk_cell BK536.out 0).trans rfl; have hcz132_1 : w129.cell? ⟨gb536, 1, none⟩ = some (.bool false) := (blk_cell BK536.out 1).trans rfl; have hcz132_2 : w129.cell? ⟨gb536, 2, none⟩ = some (.int .i64 0) := (blk_cell BK536.out 2).trans rfl; have hfz132_0 := blk_frozen BK536.out 0; have hfz132_1 := blk_frozen BK536.out 1; have hfz132_2 := blk_frozen BK536.out 2) | ((with_reducible refine gate_callee (f := 22) rfl ?_); refine goesL_ (some 61) rfl rfl Tryz.func22 (by kernel_rfl) rfl #[.string (t520.extract 0 ((ji41) : Int).toNat), .int .i64 0] rfl q42_ ?_; (with_reducible refine (impl_ReadIns.calls kj5 (t520.extract 0 ((ji41) : Int).toNat) 0 t537 t538 t539 t540 _ A44.out).mono ?_); rintro e w133 ⟨rfl, hb⟩; refine ⟨_, rfl, ?_⟩; have n0_ := Aside0.mk (blk_below (g := gb519) (o := .cells #[.int .i64 t516, .bool t517, .int .i64 t518] 30 (0, 0)) q4_ hb); have n1_ := Aside0.mk (blk_below (g := gb531) (o := .cells #[.int .i64 t527, .bool t528, .int .i64 t529] 30 (0, 0)) q5_ hb); have n2_ := Aside0.mk (blk_below (g := gb536) (o := .cells #[.int .i64 t532, .bool t533, .int .i64 t534] 30 (0, 0)) q1_ hb); have n3_ := Aside0.mk (below_step q23_ hb); clear BK519; clear BK531; clear BK536; clear HB; have BK519 := n0_; have BK531 := n1_; have BK536 := n2_; have HB := n3_; clear n0_ n1_ n2_ n3_; (try clear hb)) | ((with_reducible refine gate_dst (N := 9) rfl ?_); (try (refine gate_guard (by rfl) ?_; dsimp only)); refine box_event ?hg (N := 9) ?hd (cs := #[.int .i64 0, .bool false, .int .i64 0]) (t := 30) ?hr ?_; (case hd => rfl); (case hg => rfl); (case hr => exact q114_); intro gb541 hg w134 hbox hb; have n0_ := Aside0.mk (blk_below (g := gb519) (o := .cells #[.int .i64 t516, .bool t517, .int .i64 t518] 30 (0, 0)) q69_ hb); have n1_ := Aside0.mk (blk_below (g := gb531) (o := .cells #[.int .i64 t527, .bool t528, .int .i64 t529] 30 (0, 0)) q70_ hb); have n2_ := Aside0.mk (blk_below (g := gb536) (o := .cells #[.int .i64 t532, .bool t533, .int .i64 t534] 30 (0, 0)) q71_ hb); have n3_ := Aside0.mk (below_step q23_ hb); have n4_ := Aside0.mk (hbox); have n5_ := Aside0.mk ((q10_ : w.heap.size ≤ gb541)); have n6_ := Aside0.mk ((q10_ : w.heap.size ≤ gb541)); have n7_ := Aside0.mk ((q14_ : gb519 ≠ gb541)); have n8_ := Aside0.mk ((q15_ : gb541 ≠ gb519)); have n9_ := Aside0.mk ((q16_ : gb531 ≠ gb541)); have n10_ := Aside0.mk ((q17_ : gb541 ≠ gb531)); have n11_ := Aside0.mk ((q18_ : gb536 ≠ gb541)); have n12_ := Aside0.mk ((q19_ : gb541 ≠ gb536)); clear BK519; clear BK531; clear BK536; clear HB; have BK519 := n0_; have BK531 := n1_; have BK536 := n2_; have HB := n3_; have BK541 := n4_; have GW541 := n5_; have GE541 := n6_; have NB519_541 := n7_; have NB541_519 := n8_; have NB531_541 := n9_; have NB541_531 := n10_; have NB536_541 := n11_; have NB541_536 := n12_; clear n0_ n1_ n2_ n3_ n4_ n5_ n6_ n7_ n8_ n9_ n10_ n11_ n12_; clear hb hbox hg; have hnb135 := NB541_519.out; have hnc135 := NB519_541.out; have hnb136 := NB541_531.out; have hnc136 := NB531_541.out; have hnb137 := NB541_536.out; have hnc137 := NB536_541.out; have hcz138_0 : w134.cell? ⟨gb541, 0, none⟩ = some (.int .i64 0) := (blk_cell BK541.out 0).trans rfl; have hcz138_1 : w134.cell? ⟨gb541, 1, none⟩ = some (.bool false) := (blk_cell BK541.out 1).trans rfl; have hcz138_2 : w134.cell? ⟨gb541, 2, none⟩ = some (.int .i64 0) := (blk_cell BK541.out 2).trans rfl; have hfz138_0 := blk_frozen BK541.out 0; have hfz138_1 := blk_frozen BK541.out 1; have hfz138_2 := blk_frozen BK541.out 2; have hcz139_0 : w134.cell? ⟨gb531, 0, none⟩ = some (.int .i64 t527) := (blk_cell BK531.out 0).trans rfl; have hcz139_1 : w134.cell? ⟨gb531, 1, none⟩ = some (.bool t528) := (blk_cell BK531.out 1).trans rfl; have hcz139_2 : w134.cell? ⟨gb531, 2, none⟩ = some (.int .i64 t529) := (blk_cell BK531.out 2).trans rfl; have hfz139_0 := blk_frozen BK531.out 0; have hfz139_1 := blk_frozen BK531.out 1; have hfz139_2 := blk_frozen BK531.out 2; have hcz140_0 : w134.cell? ⟨gb519, 0, none⟩ = some (.int .i64 t516) := (blk_cell BK519.out 0).trans rfl; have hcz140_1 : w134.cell? ⟨gb519, 1, none⟩ = some (.bool t517) := (blk_cell BK519.out 1).trans rfl; have hcz140_2 : w134.cell? ⟨gb519, 2, none⟩ = some (.int .i64 t518) := (blk_cell BK519.out 2).trans rfl; have hfz140_0 := blk_frozen BK519.out 0; have hfz140_1 := blk_frozen BK519.out 1; have hfz140_2 := blk_frozen BK519.out 2))
           go_ret
           exact ⟨q31_, q11_⟩
         ·rw [if_neg c45] at H
          have c45b0 : (t527 == t516 && (t528 == t517 && (t529 == t518))) = false := by simpa using c45
          (try (have c45b1 : decide (t527 = t516 && (t528 == t517 && (t529 == t518))) = false := by simpa using c45))
          (try (have c45b2 : (t527 == t516 && (t528 == t517 && (t529 == t518))) = false := by simpa using c45))
          (try (have c45b3 : ¬ (t527 = t516 && (t528 == t517 && (t529 == t518))) := by simpa using c45))
          clear c45
          obtain rfl := Option.some.inj H
          go_wp2_with (first | ((with_reducible refine gate_callee (f := 22) rfl ?_); refine goesL_ (some 45) rfl rfl Tryz.func22 (by kernel_rfl) rfl #[.string t520, .int .i64 0] rfl q56_ ?_; (with_reducible refine (impl_ReadIns.calls kj5 t520 0 t527 t528 t529 t530 _ A37.out).mono ?_); rintro e w141 ⟨rfl, hb⟩; refine ⟨_, rfl, ?_⟩; have n0_ := Aside0.mk (blk_below (g := gb519) (o := .cells #[.int .i64 t516, .bool t517, .int .i64 t518] 30 (0, 0)) q69_ hb); have n1_ := Aside0.mk (below_step q50_ hb); clear BK519; clear HB; have BK519 := n0_; have HB := n1_; clear n0_ n1_; (try clear hb)) | ((with_reducible refine gate_dst (N := 5) rfl ?_); (try (refine gate_guard (by rfl) ?_; dsimp only)); refine box_event ?hg (N := 5) ?hd (cs := #[.int .i64 0, .bool false, .int .i64 0]) (t := 30) ?hr ?_; (case hd => rfl); (case hg => rfl); (case hr => exact q114_); intro gb531 hg w142 hbox hb; have n0_ := Aside0.mk (blk_below (g := gb519) (o := .cells #[.int .i64 t516, .bool t517, .int .i64 t518] 30 (0, 0)) q69_ hb); have n1_ := Aside0.mk (below_step q50_ hb); have n2_ := Aside0.mk (hbox); have n3_ := Aside0.mk ((q34_ : w.heap.size ≤ gb531)); have n4_ := Aside0.mk ((q34_ : w.heap.size ≤ gb531)); have n5_ := Aside0.mk ((q14_ : gb519 ≠ gb531)); have n6_ := Aside0.mk ((q15_ : gb531 ≠ gb519)); clear BK519; clear HB; have BK519 := n0_; have HB := n1_; have BK531 := n2_; have GW531 := n3_; have GE531 := n4_; have NB519_531 := n5_; have NB531_519 := n6_; clear n0_ n1_ n2_ n3_ n4_ n5_ n6_; clear hb hbox hg; have hnb143 := NB531_519.out; have hnc143 := NB519_531.out; have hcz144_0 : w142.cell? ⟨gb531, 0, none⟩ = some (.int .i64 0) := (blk_cell BK531.out 0).trans rfl; have hcz144_1 : w142.cell? ⟨gb531, 1, none⟩ = some (.bool false) := (blk_cell BK531.out 1).trans rfl; have hcz144_2 : w142.cell? ⟨gb531, 2, none⟩ = some (.int .i64 0) := (blk_cell BK531.out 2).trans rfl; have hfz144_0 := blk_frozen BK531.out 0; have hfz144_1 := blk_frozen BK531.out 1; have hfz144_2 := blk_frozen BK531.out 2) | ((with_reducible refine gate_callee (f := 22) rfl ?_); refine goesL_ (some 52) rfl rfl Tryz.func22 (by kernel_rfl) rfl #[.string (((⟨#[120, 121]⟩ : ByteArray) ++ t520) ++ (⟨#[122]⟩ : ByteArray)), .int .i64 2] rfl q56_ ?_; (with_reducible refine (impl_ReadIns.calls kj5 (((⟨#[120, 121]⟩ : ByteArray) ++ t520) ++ (⟨#[122]⟩ : ByteArray)) 2 t532 t533 t534 t535 _ A40.out).mono ?_); rintro e w145 ⟨rfl, hb⟩; refine ⟨_, rfl, ?_⟩; have n0_ := Aside0.mk (blk_below (g := gb519) (o := .cells #[.int .i64 t516, .bool t517, .int .i64 t518] 30 (0, 0)) q3_ hb); have n1_ := Aside0.mk (blk_below (g := gb531) (o := .cells #[.int .i64 t527, .bool t528, .int .i64 t529] 30 (0, 0)) q0_ hb); have n2_ := Aside0.mk (below_step q36_ hb); clear BK519; clear BK531; clear HB; have BK519 := n0_; have BK531 := n1_; have HB := n2_; clear n0_ n1_ n2_; (try clear hb)) | ((with_reducible refine gate_dst (N := 7) rfl ?_); (try (refine gate_guard (by rfl) ?_; dsimp only)); refine box_event ?hg (N := 7) ?hd (cs := #[.int .i64 0, .bool false, .int .i64 0]) (t := 30) ?hr ?_; (case hd => rfl); (case hg => rfl); (case hr => exact q114_); intro gb536 hg w146 hbox hb; have n0_ := Aside0.mk (blk_below (g := gb519) (o := .cells #[.int .i64 t516, .bool t517, .int .i64 t518] 30 (0, 0)) q69_ hb); have n1_ := Aside0.mk (blk_below (g := gb531) (o := .cells #[.int .i64 t527, .bool t528, .int .i64 t529] 30 (0, 0)) q70_ hb); have n2_ := Aside0.mk (below_step q36_ hb); have n3_ := Aside0.mk (hbox); have n4_ := Aside0.mk ((q22_ : w.heap.size ≤ gb536)); have n5_ := Aside0.mk ((q22_ : w.heap.size ≤ gb536)); have n6_ := Aside0.mk ((q14_ : gb519 ≠ gb536)); have n7_ := Aside0.mk ((q15_ : gb536 ≠ gb519)); have n8_ := Aside0.mk ((q16_ : gb531 ≠ gb536)); have n9_ := Aside0.mk ((q17_ : gb536 ≠ gb531)); clear BK519; clear BK531; clear HB; have BK519 := n0_; have BK531 := n1_; have HB := n2_; have BK536 := n3_; have GW536 := n4_; have GE536 := n5_; have NB519_536 := n6_; have NB536_519 := n7_; have NB531_536 := n8_; have NB536_531 := n9_; clear n0_ n1_ n2_ n3_ n4_ n5_ n6_ n7_ n8_ n9_; clear hb hbox hg; have hnb147 := NB536_519.out; have hnc147 := NB519_536.out; have hnb148 := NB536_531.out; have hnc148 := NB531_536.out; have hcz149_0 : w146.cell? ⟨gb536, 0, none⟩ = some (.int .i64 0) := (blk_cell BK536.out 0).trans rfl; have hcz149_1 : w146.cell? ⟨gb536, 1, none⟩ = some (.bool false) := (blk_cell BK536.out 1).trans rfl; have hcz149_2 : w146.cell? ⟨gb536, 2, none⟩ = some (.int .i64 0) := (blk_cell BK536.out 2).trans rfl; have hfz149_0 := blk_frozen BK536.out 0; have hfz149_1 := blk_frozen BK536.out 1; have hfz149_2 := blk_frozen BK536.out 2) | ((with_reducible refine gate_callee (f := 22) rfl ?_); refine goesL_ (some 61) rfl rfl Tryz.func22 (by kernel_rfl) rfl #[.string (t520.extract 0 ((ji41) : Int).toNat), .int .i64 0] rfl q42_ ?_; (with_reducible refine (impl_ReadIns.calls kj5 (t520.extract 0 ((ji41) : Int).toNat) 0 t537 t538 t539 t540 _ A44.out).mono ?_); rintro e w150 ⟨rfl, hb⟩; refine ⟨_, rfl, ?_⟩; have n0_ := Aside0.mk (blk_below (g := gb519) (o := .cells #[.int .i64 t516, .bool t517, .int .i64 t518] 30 (0, 0)) q4_ hb); have n1_ := Aside0.mk (blk_below (g := gb531) (o := .cells #[.int .i64 t527, .bool t528, .int .i64 t529] 30 (0, 0)) q5_ hb); have n2_ := Aside0.mk (blk_below (g := gb536) (o := .cells #[.int .i64 t532, .bool t533, .int .i64 t534] 30 (0, 0)) q1_ hb); have n3_ := Aside0.mk (below_step q23_ hb); clear BK519; clear BK531; clear BK536; clear HB; have BK519 := n0_; have BK531 := n1_; have BK536 := n2_; have HB := n3_; clear n0_ n1_ n2_ n3_; (try clear hb)) | ((with_reducible refine gate_dst (N := 9) rfl ?_); (try (refine gate_guard (by rfl) ?_; dsimp only)); refine box_event ?hg (N := 9) ?hd (cs := #[.int .i64 0, .bool false, .int .i64 0]) (t := 30) ?hr ?_; (case hd => rfl); (case hg => rfl); (case hr => exact q114_); intro gb541 hg w151 hbox hb; have n0_ := Aside0.mk (blk_below (g := gb519) (o := .cells #[.int .i64 t516, .bool t517, .int .i64 t518] 30 (0, 0)) q69_ hb); have n1_ := Aside0.mk (blk_below (g := gb531) (o := .cells #[.int .i64 t527, .bool t528, .int .i64 t529] 30 (0, 0)) q70_ hb); have n2_ := Aside0.mk (blk_below (g := gb536) (o := .cells #[.int .i64 t532, .bool t533, .int .i64 t534] 30 (0, 0)) q71_ hb); have n3_ := Aside0.mk (below_step q23_ hb); have n4_ := Aside0.mk (hbox); have n5_ := Aside0.mk ((q10_ : w.heap.size ≤ gb541)); have n6_ := Aside0.mk ((q10_ : w.heap.size ≤ gb541)); have n7_ := Aside0.mk ((q14_ : gb519 ≠ gb541)); have n8_ := Aside0.mk ((q15_ : gb541 ≠ gb519)); have n9_ := Aside0.mk ((q16_ : gb531 ≠ gb541)); have n10_ := Aside0.mk ((q17_ : gb541 ≠ gb531)); have n11_ := Aside0.mk ((q18_ : gb536 ≠ gb541)); have n12_ := Aside0.mk ((q19_ : gb541 ≠ gb536)); clear BK519; clear BK531; clear BK536; clear HB; have BK519 := n0_; have BK531 := n1_; have BK536 := n2_; have HB := n3_; have BK541 := n4_; have GW541 := n5_; have GE541 := n6_; have NB519_541 := n7_; have NB541_519 := n8_; have NB531_541 := n9_; have NB541_531 := n10_; have NB536_541 := n11_; have NB541_536 := n12_; clear n0_ n1_ n2_ n3_ n4_ n5_ n6_ n7_ n8_ n9_ n10_ n11_ n12_; clear hb hbox hg; have hnb152 := NB541_519.out; have hnc152 := NB519_541.out; have hnb153 := NB541_531.out; have hnc153 := NB531_541.out; have hnb154 := NB541_536.out; have hnc154 := NB536_541.out; have hcz155_0 : w151.cell? ⟨gb541, 0, none⟩ = some (.int .i64 0) := (blk_cell BK541.out 0).trans rfl; have hcz155_1 : w151.cell? ⟨gb541, 1, none⟩ = some (.bool false) := (blk_cell BK541.out 1).trans rfl; have hcz155_2 : w151.cell? ⟨gb541, 2, none⟩ = some (.int .i64 0) := (blk_cell BK541.out 2).trans rfl; have hfz155_0 := blk_frozen BK541.out 0; have hfz155_1 := blk_frozen BK541.out 1; have hfz155_2 := blk_frozen BK541.out 2; have hcz156_0 : w151.cell? ⟨gb531, 0, none⟩ = some (.int .i64 t527) := (blk_cell BK531.out 0).trans rfl; have hcz156_1 : w151.cell? ⟨gb531, 1, none⟩ = some (.bool t528) := (blk_cell BK531.out 1).trans rfl; have hcz156_2 : w151.cell? ⟨gb531, 2, none⟩ = some (.int .i64 t529) := (blk_cell BK531.out 2).trans rfl; have hfz156_0 := blk_frozen BK531.out 0; have hfz156_1 := blk_frozen BK531.out 1; have hfz156_2 := blk_frozen BK531.out 2; have hcz157_0 : w151.cell? ⟨gb519, 0, none⟩ = some (.int .i64 t516) := (blk_cell BK519.out 0).trans rfl; have hcz157_1 : w151.cell? ⟨gb519, 1, none⟩ = some (.bool t517) := (blk_cell BK519.out 1).trans rfl; have hcz157_2 : w151.cell? ⟨gb519, 2, none⟩ = some (.int .i64 t518) := (blk_cell BK519.out 2).trans rfl; have hfz157_0 := blk_frozen BK519.out 0; have hfz157_1 := blk_frozen BK519.out 1; have hfz157_2 := blk_frozen BK519.out 2))
          go_ret
          exact ⟨q31_, q11_⟩
        ·rw [if_neg c43] at H
         exact absurd H (by simp)
       ·rw [if_neg c42] at H
        exact absurd H (by simp)
      ·rw [if_neg c39] at H
       exact absurd H (by simp)
     ·rw [if_neg c38] at H
      exact absurd H (by simp)
/-- THE ONE PURE STATEMENT of laws_FnIns: yours. -/
def laws_FnIns.Pure : Prop := ∀ (l0 : List Int), l0.length ≤ maxLen → l0.length * 1 ≤ 140737488351232 → (∀ x ∈ l0, (Lit.int .u8 x).wf = true) → ∃ k, laws_FnIns.f k l0 = some true
theorem laws_FnIns.walk (P : laws_FnIns.Pure) (a0 : Option Addr) (len0 cap0 : Nat) (z0 : List Int) (w : World) (w0 : (a0 = none ∧ len0 = 0 ∧ cap0 = 0 ∧ z0 = []) ∨ ∃ x, a0 = some x ∧ len0 ≤ cap0 ∧ cap0 ≤ maxLen ∧ z0.length = cap0 ∧ (∀ i, i < z0.length → w.cell? (x.add i) = some (.int .u8 (z0.getD i 0))) ∧ ∀ n ∈ z0, (Lit.int .u8 n).wf = true) (y0 : len0 * 1 ≤ 140737488351232) (hG : Go.Proofs.YtodlnnoekccmmaaGreatDoor.LibW.GL w) :
  Calls Tryz.prog 4 #[.slice a0 len0 cap0] w fun e w' => e = .returned (.bool true) ∧ Below w.heap.size w w' := by
 obtain ⟨l0, rfl, hr0, hm0, hw0, hc0⟩ := ReadsInt.ofRowC w0
 obtain ⟨k, h⟩ := P l0 hm0 y0 hw0
 refine (laws_FnIns.calls k _ _ l0 true w (Kd.C_of_reads (d := (0 : Int)) (h1 := fun _ => rfl) hr0) hc0 h).mono ?_
 rintro e w' ⟨rfl, hd⟩
 exact ⟨rfl, hd⟩
end Go.Proofs.YtodlnnoekccmmaaGreatDoor.QFnIns
