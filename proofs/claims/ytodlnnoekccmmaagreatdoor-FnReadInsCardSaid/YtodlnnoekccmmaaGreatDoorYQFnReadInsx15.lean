/- The machine's side of a law, written by a program of this session for this claim. -/
import Derived.Test.YtodlnnoekccmmaaGreatDoorYQq
import Derived.Test.YtodlnnoekccmmaaGreatDoorYQFnReadInsx0
import Derived.Test.YtodlnnoekccmmaaGreatDoorYQFnReadInsx1
import Derived.Test.YtodlnnoekccmmaaGreatDoorYQFnReadInsx2
import Derived.Test.YtodlnnoekccmmaaGreatDoorYQFnReadInsx7
import Derived.Test.YtodlnnoekccmmaaGreatDoorYQFnReadInsx8
import Derived.Test.YtodlnnoekccmmaaGreatDoorYQFnReadInsx13
import Derived.Test.YtodlnnoekccmmaaGreatDoorYQFnReadInsx14
namespace Go.Proofs.YtodlnnoekccmmaaGreatDoor.QFnReadIns
open Go.Proofs.YtodlnnoekccmmaaGreatDoor.Qq
open Go.RowKit Go.Proofs.YtodlnnoekccmmaaGreatDoor.LibX Go.Proofs.YtodlnnoekccmmaaGreatDoor.LibE Go.Proofs.YtodlnnoekccmmaaGreatDoorW.PrintWords Go.Proofs.YtodlnnoekccmmaaGreatDoorW.PrintLast Go.Proofs.YtodlnnoekccmmaaGreatDoorW.PrintMore
attribute [local go_sem] max2_int min2_int max_two min_two max_three min_three max_four min_four   -- for this text's walks alone
set_option maxHeartbeats 8000000
set_option maxRecDepth 100000
set_option linter.unusedVariables false
set_option linter.unusedSimpArgs false
attribute [local go_sem high] eqA30
def laws_FnReadIns.j0 : Nat → ByteArray → Int → Int → Int → Bool → Int → Bool → Int → Int → Bool → Int → Option (Bool)
 | 0, _, _, _, _, _, _, _, _, _, _, _ => none
 | k + 1, x3, x4, x6, x8, x39, x540000, x540001, x540002, x545000, x545001, x545002 => if x39 = true then (if (x540000 == x545000 && (x540001 == x545001 && (x540002 == x545002))) = true then (some (x6 == x8)) else (some false)) else ((impl_InsOk.f k x540000 x540001 x540002).bind fun t545 => (if t545 = true then ((impl_InsBytes.f k x540000 x540001 x540002).bind fun t546 => (if 0 ≤ x4 then (if x4 ≤ (wrap64 (x4 + x6)) then (if (wrap64 (x4 + x6)) ≤ (x3.size : Int) then (some (t546.toList == (x3.extract (x4 : Int).toNat ((wrap64 (x4 + x6)) : Int).toNat).toList)) else (none)) else (none)) else (none))) else (some false)))
def laws_FnReadIns.f (k : Nat) (l0 : List Int) : Option (Bool) := (laws_big.f l0).bind fun t532 => (if t532 = true then (some true) else ((spec_DrawReadIns.f k l0).bind fun bt533 => ((impl_ReadIns.f k bt533.1 bt533.2).bind fun bt535 => ((spec_ReadIns.f k bt533.1 bt533.2).bind fun bt540 => (if (!(bt535.1 == bt540.1) || (!(bt535.2.1 == bt540.2.1) || (!(bt535.2.2.1 == bt540.2.2.1)))) = true then (laws_FnReadIns.j0 k bt533.1 bt533.2 bt535.2.2.2 bt540.2.2.2 true bt535.1 bt535.2.1 bt535.2.2.1 bt540.1 bt540.2.1 bt540.2.2.1) else (if bt535.2.2.2 = bt540.2.2.2 then (laws_FnReadIns.j0 k bt533.1 bt533.2 bt535.2.2.2 bt540.2.2.2 (bt535.2.2.2 == 0) bt535.1 bt535.2.1 bt535.2.2.1 bt540.1 bt540.2.1 bt540.2.2.1) else (laws_FnReadIns.j0 k bt533.1 bt533.2 bt535.2.2.2 bt540.2.2.2 true bt535.1 bt535.2.1 bt535.2.2.1 bt540.1 bt540.2.1 bt540.2.2.1)))))))
theorem laws_FnReadIns.mono_l : ∀ k, (∀ y0 y1 y2 y3 y4 y5 y6 y7 y8 y9 y10, LeO (laws_FnReadIns.j0 k y0 y1 y2 y3 y4 y5 y6 y7 y8 y9 y10) (laws_FnReadIns.j0 (k + 1) y0 y1 y2 y3 y4 y5 y6 y7 y8 y9 y10))
 | 0 => fun _ _ _ _ _ _ _ _ _ _ _ r h => by simp [laws_FnReadIns.j0] at h
 | k + 1 => by
  have ih0 := laws_FnReadIns.mono_l k
  ·intro y0 y1 y2 y3 y4 y5 y6 y7 y8 y9 y10
   unfold laws_FnReadIns.j0
   repeat' first
   | (with_reducible first | exact ih0 _ _ _ _ _ _ _ _ _ _ _ | exact impl_InsBytes.mono _ _ _ _ | exact impl_InsOk.mono _ _ _ _ | exact impl_ReadIns.mono _ _ _ | exact spec_DrawReadIns.mono _ _ | exact spec_ReadIns.mono _ _ _ | exact LeO.refl _ | exact LeO.none _ | refine LeO.ite ?_ ?_ | refine LeO.bind ?_ (fun _ => ?_))
   | exact ih0 _ _ _ _ _ _ _ _ _ _ _
   | exact impl_InsBytes.mono _ _ _ _
   | exact impl_InsOk.mono _ _ _ _
   | exact impl_ReadIns.mono _ _ _
   | exact spec_DrawReadIns.mono _ _
   | exact spec_ReadIns.mono _ _ _
   | exact LeO.none _
   | refine LeO.ite ?_ ?_
   | refine LeO.bind ?_ (fun _ => ?_)
theorem laws_FnReadIns.mono : ∀ a0 k, LeO (laws_FnReadIns.f k a0) (laws_FnReadIns.f (k + 1) a0) := by
 intro a0 k
 have ih0 := laws_FnReadIns.mono_l k
 unfold laws_FnReadIns.f
 repeat' first
   | (with_reducible first | exact ih0 _ _ _ _ _ _ _ _ _ _ _ | exact impl_InsBytes.mono _ _ _ _ | exact impl_InsOk.mono _ _ _ _ | exact impl_ReadIns.mono _ _ _ | exact spec_DrawReadIns.mono _ _ | exact spec_ReadIns.mono _ _ _ | exact LeO.refl _ | exact LeO.none _ | refine LeO.ite ?_ ?_ | refine LeO.bind ?_ (fun _ => ?_))
   | exact ih0 _ _ _ _ _ _ _ _ _ _ _
   | exact impl_InsBytes.mono _ _ _ _
   | exact impl_InsOk.mono _ _ _ _
   | exact impl_ReadIns.mono _ _ _
   | exact spec_DrawReadIns.mono _ _
   | exact spec_ReadIns.mono _ _ _
   | exact LeO.none _
   | refine LeO.ite ?_ ?_
   | refine LeO.bind ?_ (fun _ => ?_)
def laws_FnReadIns.T8 : Bool × List (List Nat × List Nat) := (true, [([], []), ([0], [0]), ([1, 1], [1]), ([2], [2]), ([3, 2, 2], [2, 3]), ([2], [2]), ([2], [2]), ([2], [2]), ([2], [2]), ([7, 8, 2], [2, 7, 8]), ([5, 6, 9, 2], [2, 5, 6, 9]), ([4, 10, 2], [2, 4, 10]), ([2, 11], [2, 11]), ([12, 4, 0, 1, 2, 3, 4, 5, 6, 7, 8, 9, 10, 11, 12], [12])])
def laws_FnReadIns.B8 : List Nat := [0, 1, 3, 7, 15, 7, 7, 7, 7, 391, 999, 2047, 4095, 8191]
theorem laws_FnReadIns.tab8 : rtab .any (opsOf Tryz.f5 8) = laws_FnReadIns.T8 := by kernel_rfl
theorem laws_FnReadIns.bits8 : waitsOk laws_FnReadIns.T8.2 laws_FnReadIns.B8 = true := by kernel_rfl
theorem laws_FnReadIns.calls (k : Nat) (A0 : Option Addr) (c0 : Nat) (l0 : List Int) (r : Bool) (w : World) (hr0 : Kd.C (Kd.int .u8) w A0 l0.length l0) (hc0 : l0.length ≤ c0) (h : laws_FnReadIns.f k l0 = some r) (hG : Go.Proofs.YtodlnnoekccmmaaGreatDoor.LibW.GL w := by first | exact hG | exact hG.below q4_ | exact hG.drewN _) :
  Calls Tryz.prog 5 #[.slice A0 l0.length c0] w fun e w' => e = .returned (.bool r) ∧ Below w.heap.size w w' := by
 have hu30 := Tryz.underlying30
 have HR0 := Aside0.mk hr0
 have HC0 := Aside0.mk hc0
 clear hr0 hc0
 have HB := Aside0.mk (Below.refl w.heap.size w)
 have H : ((laws_big.f l0).bind fun t532 => (if t532 = true then (some true) else ((spec_DrawReadIns.f k l0).bind fun bt533 => ((impl_ReadIns.f k bt533.1 bt533.2).bind fun bt535 => ((spec_ReadIns.f k bt533.1 bt533.2).bind fun bt540 => (if (!(bt535.1 == bt540.1) || (!(bt535.2.1 == bt540.2.1) || (!(bt535.2.2.1 == bt540.2.2.1)))) = true then (laws_FnReadIns.j0 k bt533.1 bt533.2 bt535.2.2.2 bt540.2.2.2 true bt535.1 bt535.2.1 bt535.2.2.1 bt540.1 bt540.2.1 bt540.2.2.1) else (if bt535.2.2.2 = bt540.2.2.2 then (laws_FnReadIns.j0 k bt533.1 bt533.2 bt535.2.2.2 bt540.2.2.2 (bt535.2.2.2 == 0) bt535.1 bt535.2.1 bt535.2.2.1 bt540.1 bt540.2.1 bt540.2.2.1) else (laws_FnReadIns.j0 k bt533.1 bt533.2 bt535.2.2.2 bt540.2.2.2 true bt535.1 bt535.2.1 bt535.2.2.1 bt540.1 bt540.2.1 bt540.2.2.1)))))))) = some r := h
 clear h
 replace H := Option.bind_eq_some_iff.mp H
 obtain ⟨t532, A20, H⟩ := H
 have A2 := Aside0.mk A20
 clear A20
 by_cases c3 : t532 = true
 ·subst c3
  replace H : (some true) = some r := by rw [if_pos rfl] at H; exact H
  obtain rfl := Option.some.inj H
  go_enter Tryz.func5, Tryz.ntmps5
  go_wp2_with (first | ((with_reducible refine gate_callee (f := 11) rfl ?_); refine goesL_ (some 10) rfl rfl Tryz.func11 (by kernel_rfl) rfl #[.slice A0 l0.length c0] rfl q51_ ?_; (with_reducible refine (laws_big.calls _ _ l0 true _ ?side1 ?side2 A2.out).mono ?_); (case side1 => exact q109_); (case side2 => exact HC0.out); rintro e w' ⟨rfl, ⟨nd, rfl⟩⟩; refine ⟨_, rfl, ?_⟩))
  go_ret
  exact ⟨q54_, q52_⟩
 ·replace c3 := Bool.eq_false_iff.mpr c3
  subst c3
  replace H : ((spec_DrawReadIns.f k l0).bind fun bt533 => ((impl_ReadIns.f k bt533.1 bt533.2).bind fun bt535 => ((spec_ReadIns.f k bt533.1 bt533.2).bind fun bt540 => (if (!(bt535.1 == bt540.1) || (!(bt535.2.1 == bt540.2.1) || (!(bt535.2.2.1 == bt540.2.2.1)))) = true then (laws_FnReadIns.j0 k bt533.1 bt533.2 bt535.2.2.2 bt540.2.2.2 true bt535.1 bt535.2.1 bt535.2.2.1 bt540.1 bt540.2.1 bt540.2.2.1) else (if bt535.2.2.2 = bt540.2.2.2 then (laws_FnReadIns.j0 k bt533.1 bt533.2 bt535.2.2.2 bt540.2.2.2 (bt535.2.2.2 == 0) bt535.1 bt535.2.1 bt535.2.2.1 bt540.1 bt540.2.1 bt540.2.2.1) else (laws_FnReadIns.j0 k bt533.1 bt533.2 bt535.2.2.2 bt540.2.2.2 true bt535.1 bt535.2.1 bt535.2.2.1 bt540.1 bt540.2.1 bt540.2.2.1)))))) = some r := by rw [if_neg (show ¬ (false = true) by decide)] at H; exact H
  replace H := Option.bind_eq_some_iff.mp H
  obtain ⟨⟨t533, t534⟩, A40, H⟩ := H
  replace H : ((impl_ReadIns.f k t533 t534).bind fun bt535 => ((spec_ReadIns.f k t533 t534).bind fun bt540 => (if (!(bt535.1 == bt540.1) || (!(bt535.2.1 == bt540.2.1) || (!(bt535.2.2.1 == bt540.2.2.1)))) = true then (laws_FnReadIns.j0 k t533 t534 bt535.2.2.2 bt540.2.2.2 true bt535.1 bt535.2.1 bt535.2.2.1 bt540.1 bt540.2.1 bt540.2.2.1) else (if bt535.2.2.2 = bt540.2.2.2 then (laws_FnReadIns.j0 k t533 t534 bt535.2.2.2 bt540.2.2.2 (bt535.2.2.2 == 0) bt535.1 bt535.2.1 bt535.2.2.1 bt540.1 bt540.2.1 bt540.2.2.1) else (laws_FnReadIns.j0 k t533 t534 bt535.2.2.2 bt540.2.2.2 true bt535.1 bt535.2.1 bt535.2.2.1 bt540.1 bt540.2.1 bt540.2.2.1))))) = some r := H
  have A4 := Aside0.mk A40
  clear A40
  replace H := Option.bind_eq_some_iff.mp H
  obtain ⟨⟨t535, t536, t537, t538⟩, A50, H⟩ := H
  replace H : ((spec_ReadIns.f k t533 t534).bind fun bt540 => (if (!(t535 == bt540.1) || (!(t536 == bt540.2.1) || (!(t537 == bt540.2.2.1)))) = true then (laws_FnReadIns.j0 k t533 t534 t538 bt540.2.2.2 true t535 t536 t537 bt540.1 bt540.2.1 bt540.2.2.1) else (if t538 = bt540.2.2.2 then (laws_FnReadIns.j0 k t533 t534 t538 bt540.2.2.2 (t538 == 0) t535 t536 t537 bt540.1 bt540.2.1 bt540.2.2.1) else (laws_FnReadIns.j0 k t533 t534 t538 bt540.2.2.2 true t535 t536 t537 bt540.1 bt540.2.1 bt540.2.2.1)))) = some r := H
  have A5 := Aside0.mk A50
  clear A50
  replace H := Option.bind_eq_some_iff.mp H
  obtain ⟨⟨t540, t541, t542, t543⟩, A60, H⟩ := H
  replace H : (if (!(t535 == t540) || (!(t536 == t541) || (!(t537 == t542)))) = true then (laws_FnReadIns.j0 k t533 t534 t538 t543 true t535 t536 t537 t540 t541 t542) else (if t538 = t543 then (laws_FnReadIns.j0 k t533 t534 t538 t543 (t538 == 0) t535 t536 t537 t540 t541 t542) else (laws_FnReadIns.j0 k t533 t534 t538 t543 true t535 t536 t537 t540 t541 t542))) = some r := H
  have A6 := Aside0.mk A60
  clear A60
  have HC7 := Aside0.mk H
  clear H
  go_enter Tryz.func5, Tryz.ntmps5
  go_upto_region 6 with (first | ((with_reducible refine gate_callee (f := 11) rfl ?_); refine goesL_ (some 10) rfl rfl Tryz.func11 (by kernel_rfl) rfl #[.slice A0 l0.length c0] rfl q51_ ?_; (with_reducible refine (laws_big.calls _ _ l0 false _ ?side1 ?side2 A2.out).mono ?_); (case side1 => exact q109_); (case side2 => exact HC0.out); rintro e w' ⟨rfl, ⟨nd, rfl⟩⟩; refine ⟨_, rfl, ?_⟩) | ((with_reducible refine gate_callee (f := 23) rfl ?_); refine goesL_ (some 13) rfl rfl Tryz.func23 (by kernel_rfl) rfl #[.slice A0 l0.length c0] rfl q51_ ?_; (with_reducible refine (spec_DrawReadIns.calls k _ _ l0 t533 t534 _ ?side1 ?side2 A4.out).mono ?_); (case side1 => exact q109_); (case side2 => exact HC0.out); rintro e w8 ⟨rfl, hb⟩; refine ⟨_, rfl, ?_⟩; replace HB := Aside0.mk (below_step q52_ hb); (try clear hb)) | ((with_reducible refine gate_callee (f := 22) rfl ?_); refine goesL_ (some 19) rfl rfl Tryz.func22 (by kernel_rfl) rfl #[.string t533, .int .i64 t534] rfl q51_ ?_; (with_reducible refine (impl_ReadIns.calls k t533 t534 t535 t536 t537 t538 _ A5.out).mono ?_); rintro e w9 ⟨rfl, hb⟩; refine ⟨_, rfl, ?_⟩; replace HB := Aside0.mk (below_step q52_ hb); (try clear hb)) | ((with_reducible refine gate_dst (N := 5) rfl ?_); refine box_event ?hg (N := 5) ?hd (cs := #[.int .i64 0, .bool false, .int .i64 0]) (t := 30) ?hr ?_; (case hd => rfl); (case hg => rfl); (case hr => exact q111_); intro gb539 hg w10 hbox hb; have n0_ := Aside0.mk (below_step q52_ hb); have n1_ := Aside0.mk (hbox); have n2_ := Aside0.mk ((q36_ : w.heap.size ≤ gb539)); have n3_ := Aside0.mk ((q36_ : w.heap.size ≤ gb539)); clear HB; have HB := n0_; have BK539 := n1_; have GW539 := n2_; have GE539 := n3_; clear n0_ n1_ n2_ n3_; clear hb hbox hg; have hcz11_0 : w10.cell? ⟨gb539, 0, none⟩ = some (.int .i64 0) := (blk_cell BK539.out 0).trans rfl; have hcz11_1 : w10.cell? ⟨gb539, 1, none⟩ = some (.bool false) := (blk_cell BK539.out 1).trans rfl; have hcz11_2 : w10.cell? ⟨gb539, 2, none⟩ = some (.int .i64 0) := (blk_cell BK539.out 2).trans rfl; have hfz11_0 := blk_frozen BK539.out 0; have hfz11_1 := blk_frozen BK539.out 1; have hfz11_2 := blk_frozen BK539.out 2) | ((with_reducible refine gate_callee (f := 24) rfl ?_); refine goesL_ (some 25) rfl rfl Tryz.func24 (by kernel_rfl) rfl #[.string t533, .int .i64 t534] rfl q51_ ?_; (with_reducible refine (spec_ReadIns.calls k t533 t534 t540 t541 t542 t543 _ A6.out).mono ?_); rintro e w12 ⟨rfl, hb⟩; refine ⟨_, rfl, ?_⟩; have n0_ := Aside0.mk (blk_below (g := gb539) (o := .cells #[.int .i64 t535, .bool t536, .int .i64 t537] 30 (0, 0)) (by (with_reducible repeat (first | refine blk_drewN ?_ _ | refine blk_drew ?_ | refine blk_alloc ?_ _)); refine blk_put (cs := #[.int .i64 t535, .bool t536, .int .i64 0]) ?_ 2 _ rfl; (with_reducible repeat (first | refine blk_drewN ?_ _ | refine blk_drew ?_ | refine blk_alloc ?_ _)); refine blk_put (cs := #[.int .i64 t535, .bool false, .int .i64 0]) ?_ 1 _ rfl; (with_reducible repeat (first | refine blk_drewN ?_ _ | refine blk_drew ?_ | refine blk_alloc ?_ _)); refine blk_put (cs := #[.int .i64 0, .bool false, .int .i64 0]) ?_ 0 _ rfl; (with_reducible repeat (first | refine blk_drewN ?_ _ | refine blk_drew ?_ | refine blk_alloc ?_ _)); exact BK539.out) hb); have n1_ := Aside0.mk (below_step q43_ hb); clear BK539; clear HB; have BK539 := n0_; have HB := n1_; clear n0_ n1_; (try clear hb)) | ((with_reducible refine gate_dst (N := 7) rfl ?_); refine box_event ?hg (N := 7) ?hd (cs := #[.int .i64 0, .bool false, .int .i64 0]) (t := 30) ?hr ?_; (case hd => rfl); (case hg => rfl); (case hr => exact q111_); intro gb544 hg w13 hbox hb; have n0_ := Aside0.mk (blk_below (g := gb539) (o := .cells #[.int .i64 t535, .bool t536, .int .i64 t537] 30 (0, 0)) q65_ hb); have n1_ := Aside0.mk (below_step q43_ hb); have n2_ := Aside0.mk (hbox); have n3_ := Aside0.mk ((q25_ : w.heap.size ≤ gb544)); have n4_ := Aside0.mk ((q25_ : w.heap.size ≤ gb544)); have n5_ := Aside0.mk ((by rw [hg]; exact Nat.ne_of_lt (blk_lt (g := gb539) (o := .cells #[.int .i64 t535, .bool t536, .int .i64 t537] 30 (0, 0)) q65_) : gb539 ≠ gb544)); have n6_ := Aside0.mk ((by rw [hg]; exact Nat.ne_of_gt (blk_lt (g := gb539) (o := .cells #[.int .i64 t535, .bool t536, .int .i64 t537] 30 (0, 0)) q65_) : gb544 ≠ gb539)); clear BK539; clear HB; have BK539 := n0_; have HB := n1_; have BK544 := n2_; have GW544 := n3_; have GE544 := n4_; have NB539_544 := n5_; have NB544_539 := n6_; clear n0_ n1_ n2_ n3_ n4_ n5_ n6_; clear hb hbox hg; have hnb14 := NB544_539.out; have hnc14 := NB539_544.out; have hcz15_0 : w13.cell? ⟨gb544, 0, none⟩ = some (.int .i64 0) := (blk_cell BK544.out 0).trans rfl; have hcz15_1 : w13.cell? ⟨gb544, 1, none⟩ = some (.bool false) := (blk_cell BK544.out 1).trans rfl; have hcz15_2 : w13.cell? ⟨gb544, 2, none⟩ = some (.int .i64 0) := (blk_cell BK544.out 2).trans rfl; have hfz15_0 := blk_frozen BK544.out 0; have hfz15_1 := blk_frozen BK544.out 1; have hfz15_2 := blk_frozen BK544.out 2))
  (try simp only [Act.put, List.setIfInBounds_toArray, List.set_cons_zero, List.set_cons_succ])
  go_cut [39] (fun v39 wc => ∃ (kq : Nat) (x39_6 : Bool), v39 = .bool x39_6 ∧ Aside0 (laws_FnReadIns.j0 kq t533 t534 t538 t543 x39_6 t535 t536 t537 t540 t541 t542 = some r) ∧ Aside0 (kq ≤ k) ∧ Aside0 (wc.heap[gb539]? = some (.cells #[.int .i64 t535, .bool t536, .int .i64 t537] 30 (0, 0))) ∧ Aside0 (wc.heap[gb544]? = some (.cells #[.int .i64 t540, .bool t541, .int .i64 t542] 30 (0, 0))) ∧ Aside0 (Below w.heap.size w wc))
  case first =>
   have H := HC7.out
   clear HC7
   by_cases c16 : (!(t535 == t540) || (!(t536 == t541) || (!(t537 == t542)))) = true
   ·rw [if_pos c16] at H
    have c16b0 : (!(t535 == t540) || (!(t536 == t541) || (!(t537 == t542)))) = true := c16
    clear c16
    (first | rw [c16b0] | (simp only [i64_w, i32_w]; rw [c16b0]) | skip)
    have H' := Aside0.mk H
    clear H
    have hnb17 := NB539_544.out
    have hnc17 := NB544_539.out
    have hcz18_0 : w13.cell? ⟨gb539, 0, none⟩ = some (.int .i64 t535) := bz_ BK539 0
    have hcz18_1 : w13.cell? ⟨gb539, 1, none⟩ = some (.bool t536) := bz_ BK539 1
    have hcz18_2 : w13.cell? ⟨gb539, 2, none⟩ = some (.int .i64 t537) := bz_ BK539 2
    have hfz18_0 := blk_frozen BK539.out 0
    have hfz18_1 := blk_frozen BK539.out 1
    have hfz18_2 := blk_frozen BK539.out 2
    have hcz19_0 : w13.cell? ⟨gb544, 0, none⟩ = some (.int .i64 0) := bz_ BK544 0
    have hcz19_1 : w13.cell? ⟨gb544, 1, none⟩ = some (.bool false) := bz_ BK544 1
    have hcz19_2 : w13.cell? ⟨gb544, 2, none⟩ = some (.int .i64 0) := bz_ BK544 2
    have hfz19_0 := blk_frozen BK544.out 0
    have hfz19_1 := blk_frozen BK544.out 1
    have hfz19_2 := blk_frozen BK544.out 2
    go_wp2
    go_meet
    case rel => exact ⟨_, (true), q68_, H', ⟨q94_⟩, ⟨q3_⟩, ⟨q0_⟩, ⟨q28_⟩⟩
   ·rw [if_neg c16] at H
    have c16b0 : (!(t535 == t540) || (!(t536 == t541) || (!(t537 == t542)))) = false := by simpa using c16
    clear c16
    (first | rw [c16b0] | (simp only [i64_w, i32_w]; rw [c16b0]) | skip)
    by_cases c20 : t538 = t543
    ·rw [if_pos c20] at H
     have c20b0 : (t538 == t543) = true := beq_iff_eq.mpr c20
     have c20b1 : (t538 != t543) = false := bne_eq_false_iff_eq.mpr c20
     clear c20
     have H' := Aside0.mk H
     clear H
     have hnb21 := NB539_544.out
     have hnc21 := NB544_539.out
     have hcz22_0 : w13.cell? ⟨gb539, 0, none⟩ = some (.int .i64 t535) := bz_ BK539 0
     have hcz22_1 : w13.cell? ⟨gb539, 1, none⟩ = some (.bool t536) := bz_ BK539 1
     have hcz22_2 : w13.cell? ⟨gb539, 2, none⟩ = some (.int .i64 t537) := bz_ BK539 2
     have hfz22_0 := blk_frozen BK539.out 0
     have hfz22_1 := blk_frozen BK539.out 1
     have hfz22_2 := blk_frozen BK539.out 2
     have hcz23_0 : w13.cell? ⟨gb544, 0, none⟩ = some (.int .i64 0) := bz_ BK544 0
     have hcz23_1 : w13.cell? ⟨gb544, 1, none⟩ = some (.bool false) := bz_ BK544 1
     have hcz23_2 : w13.cell? ⟨gb544, 2, none⟩ = some (.int .i64 0) := bz_ BK544 2
     have hfz23_0 := blk_frozen BK544.out 0
     have hfz23_1 := blk_frozen BK544.out 1
     have hfz23_2 := blk_frozen BK544.out 2
     go_wp2
     go_meet
     case rel => exact ⟨_, ((t538 == 0)), q68_, H', ⟨q94_⟩, ⟨q3_⟩, ⟨q0_⟩, ⟨q28_⟩⟩
    ·rw [if_neg c20] at H
     have c20b0 : (t538 == t543) = false := beq_eq_false_iff_ne.mpr c20
     have c20b1 : (t538 != t543) = true := bne_iff_ne.mpr c20
     have H' := Aside0.mk H
     clear H
     have hnb24 := NB539_544.out
     have hnc24 := NB544_539.out
     have hcz25_0 : w13.cell? ⟨gb539, 0, none⟩ = some (.int .i64 t535) := bz_ BK539 0
     have hcz25_1 : w13.cell? ⟨gb539, 1, none⟩ = some (.bool t536) := bz_ BK539 1
     have hcz25_2 : w13.cell? ⟨gb539, 2, none⟩ = some (.int .i64 t537) := bz_ BK539 2
     have hfz25_0 := blk_frozen BK539.out 0
     have hfz25_1 := blk_frozen BK539.out 1
     have hfz25_2 := blk_frozen BK539.out 2
     have hcz26_0 : w13.cell? ⟨gb544, 0, none⟩ = some (.int .i64 0) := bz_ BK544 0
     have hcz26_1 : w13.cell? ⟨gb544, 1, none⟩ = some (.bool false) := bz_ BK544 1
     have hcz26_2 : w13.cell? ⟨gb544, 2, none⟩ = some (.int .i64 0) := bz_ BK544 2
     have hfz26_0 := blk_frozen BK544.out 0
     have hfz26_1 := blk_frozen BK544.out 1
     have hfz26_2 := blk_frozen BK544.out 2
     go_wp2
     go_meet
     case rel => exact ⟨_, (true), q68_, H', ⟨q94_⟩, ⟨q3_⟩, ⟨q0_⟩, ⟨q28_⟩⟩
  case rest =>
   clear HC7
   try clear c1
   try clear c2
   try clear p2
   try clear c3
   try clear c5
   try clear p6
   try clear c11
   try clear c14
   try clear c16
   try clear c16b0
   try clear c17
   try clear c20
   try clear c20b0
   try clear c20b1
   try clear c21
   try clear c22
   try clear c23
   try clear c24
   try clear hcz11_0 hcz11_1 hcz11_2
   try clear hcz15_0 hcz15_1 hcz15_2
   try clear hcz18_0 hcz18_1 hcz18_2
   try clear hcz19_0 hcz19_1 hcz19_2
   try clear hcz22_0 hcz22_1 hcz22_2
   try clear hcz23_0 hcz23_1 hcz23_2
   try clear hcz25_0 hcz25_1 hcz25_2
   try clear hcz26_0 hcz26_1 hcz26_2
   try clear hfz11_0 hfz11_1 hfz11_2
   try clear hfz15_0 hfz15_1 hfz15_2
   try clear hfz18_0 hfz18_1 hfz18_2
   try clear hfz19_0 hfz19_1 hfz19_2
   try clear hfz22_0 hfz22_1 hfz22_2
   try clear hfz23_0 hfz23_1 hfz23_2
   try clear hfz25_0 hfz25_1 hfz25_2
   try clear hfz26_0 hfz26_1 hfz26_2
   obtain ⟨kq, x39_6, rfl, HA, HJ6, BK539, BK544, HB⟩ := hcut
   cases kq with
   | zero => exact absurd HA.out (by simp [laws_FnReadIns.j0])
   | succ kj6 =>
    have H := HA.out
    clear HA
    simp only [laws_FnReadIns.j0] at H
    by_cases c27 : x39_6 = true
    ·subst c27
     replace H : (if (t535 == t540 && (t536 == t541 && (t537 == t542))) = true then (some (t538 == t543)) else (some false)) = some r := by rw [if_pos rfl] at H; exact H
     by_cases c28 : (t535 == t540 && (t536 == t541 && (t537 == t542))) = true
     ·rw [if_pos c28] at H
      have c28b0 : (t535 == t540 && (t536 == t541 && (t537 == t542))) = true := c28
      (try (have c28b1 : decide (t535 = t540 && (t536 == t541 && (t537 == t542))) = true := by simpa using c28))
      (try (have c28b2 : (t535 == t540 && (t536 == t541 && (t537 == t542))) = true := by simpa using c28))
      clear c28
      obtain rfl := Option.some.inj H
      have hnb29 := NB539_544.out
      have hnc29 := NB544_539.out
      have hcz30_0 : wc.cell? ⟨gb539, 0, none⟩ = some (.int .i64 t535) := bz_ BK539 0
      have hcz30_1 : wc.cell? ⟨gb539, 1, none⟩ = some (.bool t536) := bz_ BK539 1
      have hcz30_2 : wc.cell? ⟨gb539, 2, none⟩ = some (.int .i64 t537) := bz_ BK539 2
      have hfz30_0 := blk_frozen BK539.out 0
      have hfz30_1 := blk_frozen BK539.out 1
      have hfz30_2 := blk_frozen BK539.out 2
      have hcz31_0 : wc.cell? ⟨gb544, 0, none⟩ = some (.int .i64 t540) := bz_ BK544 0
      have hcz31_1 : wc.cell? ⟨gb544, 1, none⟩ = some (.bool t541) := bz_ BK544 1
      have hcz31_2 : wc.cell? ⟨gb544, 2, none⟩ = some (.int .i64 t542) := bz_ BK544 2
      have hfz31_0 := blk_frozen BK544.out 0
      have hfz31_1 := blk_frozen BK544.out 1
      have hfz31_2 := blk_frozen BK544.out 2
      go_wp2
      go_ret
      exact ⟨q54_, q28_⟩
     ·rw [if_neg c28] at H
      have c28b0 : (t535 == t540 && (t536 == t541 && (t537 == t542))) = false := by simpa using c28
      (try (have c28b1 : decide (t535 = t540 && (t536 == t541 && (t537 == t542))) = false := by simpa using c28))
      (try (have c28b2 : (t535 == t540 && (t536 == t541 && (t537 == t542))) = false := by simpa using c28))
      (try (have c28b3 : ¬ (t535 = t540 && (t536 == t541 && (t537 == t542))) := by simpa using c28))
      clear c28
      obtain rfl := Option.some.inj H
      have hnb32 := NB539_544.out
      have hnc32 := NB544_539.out
      have hcz33_0 : wc.cell? ⟨gb539, 0, none⟩ = some (.int .i64 t535) := bz_ BK539 0
      have hcz33_1 : wc.cell? ⟨gb539, 1, none⟩ = some (.bool t536) := bz_ BK539 1
      have hcz33_2 : wc.cell? ⟨gb539, 2, none⟩ = some (.int .i64 t537) := bz_ BK539 2
      have hfz33_0 := blk_frozen BK539.out 0
      have hfz33_1 := blk_frozen BK539.out 1
      have hfz33_2 := blk_frozen BK539.out 2
      have hcz34_0 : wc.cell? ⟨gb544, 0, none⟩ = some (.int .i64 t540) := bz_ BK544 0
      have hcz34_1 : wc.cell? ⟨gb544, 1, none⟩ = some (.bool t541) := bz_ BK544 1
      have hcz34_2 : wc.cell? ⟨gb544, 2, none⟩ = some (.int .i64 t542) := bz_ BK544 2
      have hfz34_0 := blk_frozen BK544.out 0
      have hfz34_1 := blk_frozen BK544.out 1
      have hfz34_2 := blk_frozen BK544.out 2
      go_wp2
      go_ret
      exact ⟨q54_, q28_⟩
    ·replace c27 := Bool.eq_false_iff.mpr c27
     subst c27
     replace H : ((impl_InsOk.f kj6 t535 t536 t537).bind fun t545 => (if t545 = true then ((impl_InsBytes.f kj6 t535 t536 t537).bind fun t546 => (if 0 ≤ t534 then (if t534 ≤ (wrap64 (t534 + t538)) then (if (wrap64 (t534 + t538)) ≤ (t533.size : Int) then (some (t546.toList == (t533.extract (t534 : Int).toNat ((wrap64 (t534 + t538)) : Int).toNat).toList)) else (none)) else (none)) else (none))) else (some false))) = some r := by rw [if_neg (show ¬ (false = true) by decide)] at H; exact H
     replace H := Option.bind_eq_some_iff.mp H
     obtain ⟨t545, A350, H⟩ := H
     have A35 := Aside0.mk A350
     clear A350
     by_cases c36 : t545 = true
     ·subst c36
      replace H : ((impl_InsBytes.f kj6 t535 t536 t537).bind fun t546 => (if 0 ≤ t534 then (if t534 ≤ (wrap64 (t534 + t538)) then (if (wrap64 (t534 + t538)) ≤ (t533.size : Int) then (some (t546.toList == (t533.extract (t534 : Int).toNat ((wrap64 (t534 + t538)) : Int).toNat).toList)) else (none)) else (none)) else (none))) = some r := by rw [if_pos rfl] at H; exact H
      replace H := Option.bind_eq_some_iff.mp H
      obtain ⟨t546, A370, H⟩ := H
      have A37 := Aside0.mk A370
      clear A370
      by_cases c38 : 0 ≤ t534
      ·rw [if_pos c38] at H
       have c38b0 := eq_true c38
       have c38b1 : decide (0 ≤ t534) = true := decide_eq_true c38
       clear c38
       by_cases c39 : t534 ≤ (wrap64 (t534 + t538))
       ·rw [if_pos c39] at H
        have c39b0 := eq_true c39
        have c39b1 : decide (t534 ≤ (wrap64 (t534 + t538))) = true := decide_eq_true c39
        by_cases c40 : (wrap64 (t534 + t538)) ≤ (t533.size : Int)
        ·rw [if_pos c40] at H
         have c40b0 := eq_true c40
         have c40b1 : decide ((wrap64 (t534 + t538)) ≤ (t533.size : Int)) = true := decide_eq_true c40
         obtain rfl := Option.some.inj H
         try go_wp2
         have n0_ := Aside0.mk (blk_drew BK539.out)
         have n1_ := Aside0.mk (blk_drew BK544.out)
         have n2_ := Aside0.mk (below_drew1 HB.out)
         clear BK539
         clear BK544
         clear HB
         have BK539 := n0_
         have BK544 := n1_
         have HB := n2_
         clear n0_ n1_ n2_
         refine start_ (n := 14) (S := fun w' => w'.cell? ⟨gb539, 0, none⟩ = some (.int .i64 t535) ∧ w'.cell? ⟨gb539, 1, none⟩ = some (.bool t536) ∧ w'.cell? ⟨gb539, 2, none⟩ = some (.int .i64 t537)) (ds := []) #[false, false, false, false, false, false, false, false, false, false, false, false, false, false] (by kernel_rfl) rfl rfl ⟨(blk_cell BK539.out 0).trans rfl, (blk_cell BK539.out 1).trans rfl, (blk_cell BK539.out 2).trans rfl⟩ (fun hHeld => ?_); refine with_tabW laws_FnReadIns.tab8 laws_FnReadIns.bits8 (fun HT_ HW_ => ?_)
         generalize wc.drew = w41 at BK539 BK544 HB hHeld ⊢
         refine take_ (i := 0) (N := some 48) (v := ?_) (a' := ?_) #[true, false, false, false, false, false, false, false, false, false, false, false, false, false] rfl rfl (take_ofW HT_.out HW_.out (by kernel_rfl)) (fun _ _ _ h => h) (Or.inl ⟨by rfl, ?_⟩) hHeld ?_ ?_
         rotate_left
         ·rintro w' ⟨s0, s1, s2⟩
          go_simp
          with_reducible rfl
         rotate_left
         ·simp only [Act.put, List.setIfInBounds_toArray, List.set_cons_zero, List.set_cons_succ, i64_w, i32_w]
          rfl
         refine one_ (i := 1) (N := some 49) #[true, true, false, false, false, false, false, false, false, false, false, false, false, false] rfl rfl (one_of HT_.out (by kernel_rfl)) (by decide) (fun K hK => ?_)
         refine goes_ Tryz.func20 (by kernel_rfl) rfl #[.agg #[.int .i64 t535, .bool t536, .int .i64 t537]] (by rfl) rfl rfl q51_ ?_
         with_reducible refine (impl_InsOk.calls kj6 t535 t536 t537 true _ A35.out).mono ?_
         rintro e w42 ⟨rfl, hb⟩
         refine ⟨_, rfl, ?_⟩
         have n0_ := Aside0.mk (blk_below (g := gb539) (o := .cells #[.int .i64 t535, .bool t536, .int .i64 t537] 30 (0, 0)) q65_ hb)
         have n1_ := Aside0.mk (blk_below (g := gb544) (o := .cells #[.int .i64 t540, .bool t541, .int .i64 t542] 30 (0, 0)) q66_ hb)
         have n2_ := Aside0.mk (below_step q28_ hb)
         clear BK539
         clear BK544
         clear HB
         have BK539 := n0_
         have BK544 := n1_
         have HB := n2_
         clear n0_ n1_ n2_
         (try clear hb)
         (try clear hb2)
         (try clear hk)
         (try clear hi)
         refine hK.out _ _ ⟨(blk_cell BK539.out 0).trans rfl, (blk_cell BK539.out 1).trans rfl, (blk_cell BK539.out 2).trans rfl⟩ (fun hHeld => ?_)
         clear hK K
         refine norm_ (a' := ?_) ?_ ?_
         rotate_left
         ·show Act.put _ (some 49) _ = _
          simp only [Act.put, List.setIfInBounds_toArray, List.set_cons_zero, List.set_cons_succ, i64_w, i32_w]
          rfl
         refine pure_ (i := 2) (N := some 50) (v := ?_) (a' := ?_) #[true, true, true, false, false, false, false, false, false, false, false, false, false, false] rfl rfl (any_of HT_.out (by kernel_rfl)) (fun _ _ _ h => h) (Or.inl ⟨by rfl, ?_⟩) ?_ ?_
         rotate_left
         ·intro w'
          go_simp
          with_reducible rfl
         rotate_left
         ·simp only [Act.put, List.setIfInBounds_toArray, List.set_cons_zero, List.set_cons_succ, i64_w, i32_w]
          rfl
         refine pure_ (i := 5) (N := some 53) (v := ?_) (a' := ?_) #[true, true, true, false, false, true, false, false, false, false, false, false, false, false] rfl rfl (any_of HT_.out (by kernel_rfl)) (fun _ _ _ h => h) (Or.inl ⟨by rfl, ?_⟩) ?_ ?_
         rotate_left
         ·intro w'
          go_simp
          with_reducible rfl
         rotate_left
         ·simp only [Act.put, List.setIfInBounds_toArray, List.set_cons_zero, List.set_cons_succ, i64_w, i32_w]
          rfl
         refine pure_ (i := 6) (N := some 54) (v := ?_) (a' := ?_) #[true, true, true, false, false, true, true, false, false, false, false, false, false, false] rfl rfl (any_of HT_.out (by kernel_rfl)) (fun _ _ _ h => h) (Or.inl ⟨by rfl, ?_⟩) ?_ ?_
         rotate_left
         ·intro w'
          go_simp
          with_reducible rfl
         rotate_left
         ·simp only [Act.put, List.setIfInBounds_toArray, List.set_cons_zero, List.set_cons_succ, i64_w, i32_w]
          rfl
         refine pure_ (i := 7) (N := some 55) (v := ?_) (a' := ?_) #[true, true, true, false, false, true, true, true, false, false, false, false, false, false] rfl rfl (any_of HT_.out (by kernel_rfl)) (fun _ _ _ h => h) (Or.inl ⟨by rfl, ?_⟩) ?_ ?_
         rotate_left
         ·intro w'
          go_simp
          with_reducible rfl
         rotate_left
         ·simp only [Act.put, List.setIfInBounds_toArray, List.set_cons_zero, List.set_cons_succ, i64_w, i32_w]
          rfl
         refine pure_ (i := 8) (N := some 56) (v := ?_) (a' := ?_) #[true, true, true, false, false, true, true, true, true, false, false, false, false, false] rfl rfl (any_of HT_.out (by kernel_rfl)) (fun _ _ _ h => h) (Or.inl ⟨by rfl, ?_⟩) ?_ ?_
         rotate_left
         ·intro w'
          go_simp
          with_reducible rfl
         rotate_left
         ·simp only [Act.put, List.setIfInBounds_toArray, List.set_cons_zero, List.set_cons_succ, i64_w, i32_w]
          rfl
         refine pure_ (i := 9) (N := some 57) (v := ?_) (a' := ?_) #[true, true, true, false, false, true, true, true, true, true, false, false, false, false] rfl rfl (any_of HT_.out (by kernel_rfl)) (fun _ _ _ h => h) (Or.inl ⟨by rfl, ?_⟩) ?_ ?_
         rotate_left
         ·intro w'
          go_simp
          with_reducible rfl
         rotate_left
         ·simp only [Act.put, List.setIfInBounds_toArray, List.set_cons_zero, List.set_cons_succ, i64_w, i32_w]
          rfl
         refine pure_ (i := 10) (N := some 58) (v := ?_) (a' := ?_) #[true, true, true, false, false, true, true, true, true, true, true, false, false, false] rfl rfl (any_of HT_.out (by kernel_rfl)) (fun _ _ _ h => h) (Or.inl ⟨by rfl, ?_⟩) ?_ ?_
         rotate_left
         ·intro w'
          go_simp
          with_reducible rfl
         rotate_left
         ·simp only [Act.put, List.setIfInBounds_toArray, List.set_cons_zero, List.set_cons_succ, i64_w, i32_w]
          rfl
         refine take_ (i := 3) (N := some 51) (v := ?_) (a' := ?_) #[true, true, true, true, false, true, true, true, true, true, true, false, false, false] rfl rfl (take_ofW HT_.out HW_.out (by kernel_rfl)) (fun _ _ _ h => h) (Or.inl ⟨by rfl, ?_⟩) hHeld ?_ ?_
         rotate_left
         ·rintro w' ⟨s0, s1, s2⟩
          go_simp
          with_reducible rfl
         rotate_left
         ·simp only [Act.put, List.setIfInBounds_toArray, List.set_cons_zero, List.set_cons_succ, i64_w, i32_w]
          rfl
         refine one_ (i := 4) (N := some 52) #[true, true, true, true, true, true, true, true, true, true, true, false, false, false] rfl rfl (one_of HT_.out (by kernel_rfl)) (by decide) (fun K hK => ?_)
         refine goes_ Tryz.func17 (by kernel_rfl) rfl #[.agg #[.int .i64 t535, .bool t536, .int .i64 t537]] (by rfl) rfl rfl q51_ ?_
         with_reducible refine (impl_InsBytes.calls kj6 t535 t536 t537 t546 _ A37.out).mono ?_
         rintro e w43 ⟨rfl, hb⟩
         refine ⟨_, rfl, ?_⟩
         have n0_ := Aside0.mk (blk_below (g := gb539) (o := .cells #[.int .i64 t535, .bool t536, .int .i64 t537] 30 (0, 0)) q65_ hb)
         have n1_ := Aside0.mk (blk_below (g := gb544) (o := .cells #[.int .i64 t540, .bool t541, .int .i64 t542] 30 (0, 0)) q66_ hb)
         have n2_ := Aside0.mk (below_step q28_ hb)
         clear BK539
         clear BK544
         clear HB
         have BK539 := n0_
         have BK544 := n1_
         have HB := n2_
         clear n0_ n1_ n2_
         (try clear hb)
         (try clear hb2)
         (try clear hk)
         (try clear hi)
         refine hK.out _ _ ⟨(blk_cell BK539.out 0).trans rfl, (blk_cell BK539.out 1).trans rfl, (blk_cell BK539.out 2).trans rfl⟩ (fun hHeld => ?_)
         clear hK K
         refine norm_ (a' := ?_) ?_ ?_
         rotate_left
         ·show Act.put _ (some 52) _ = _
          simp only [Act.put, List.setIfInBounds_toArray, List.set_cons_zero, List.set_cons_succ, i64_w, i32_w]
          rfl
         refine pure_ (i := 11) (N := some 59) (v := ?_) (a' := ?_) #[true, true, true, true, true, true, true, true, true, true, true, true, false, false] rfl rfl (any_of HT_.out (by kernel_rfl)) (fun _ _ _ h => h) (Or.inl ⟨by rfl, ?_⟩) ?_ ?_
         rotate_left
         ·intro w'
          go_simp
          with_reducible rfl
         rotate_left
         ·simp only [Act.put, List.setIfInBounds_toArray, List.set_cons_zero, List.set_cons_succ, i64_w, i32_w]
          rfl
         refine pure_ (i := 12) (N := some 60) (v := ?_) (a' := ?_) #[true, true, true, true, true, true, true, true, true, true, true, true, true, false] rfl rfl (any_of HT_.out (by kernel_rfl)) (fun _ _ _ h => h) (Or.inl ⟨by rfl, ?_⟩) ?_ ?_
         rotate_left
         ·intro w'
          go_simp
          with_reducible rfl
         rotate_left
         ·simp only [Act.put, List.setIfInBounds_toArray, List.set_cons_zero, List.set_cons_succ, i64_w, i32_w]
          rfl
         refine pure_ (i := 13) (N := some 2) (v := ?_) (a' := ?_) #[true, true, true, true, true, true, true, true, true, true, true, true, true, true] rfl rfl (any_of HT_.out (by kernel_rfl)) (fun _ _ _ h => h) (Or.inl ⟨by rfl, ?_⟩) ?_ ?_
         rotate_left
         ·intro w'
          go_simp
          with_reducible rfl
         rotate_left
         ·simp only [Act.put, List.setIfInBounds_toArray, List.set_cons_zero, List.set_cons_succ, i64_w, i32_w]
          rfl
         refine done_ (done_of HT_.out (by kernel_rfl)) ?_
         try go_wp2
         go_ret
         exact ⟨q54_, q28_⟩
        ·rw [if_neg c40] at H
         exact absurd H (by simp)
       ·rw [if_neg c39] at H
        exact absurd H (by simp)
      ·rw [if_neg c38] at H
       exact absurd H (by simp)
     ·replace c36 := Bool.eq_false_iff.mpr c36
      subst c36
      replace H : (some false) = some r := by rw [if_neg (show ¬ (false = true) by decide)] at H; exact H
      obtain rfl := Option.some.inj H
      try go_wp2
      have n0_ := Aside0.mk (blk_drew BK539.out)
      have n1_ := Aside0.mk (blk_drew BK544.out)
      have n2_ := Aside0.mk (below_drew1 HB.out)
      clear BK539
      clear BK544
      clear HB
      have BK539 := n0_
      have BK544 := n1_
      have HB := n2_
      clear n0_ n1_ n2_
      refine start_ (n := 14) (S := fun w' => w'.cell? ⟨gb539, 0, none⟩ = some (.int .i64 t535) ∧ w'.cell? ⟨gb539, 1, none⟩ = some (.bool t536) ∧ w'.cell? ⟨gb539, 2, none⟩ = some (.int .i64 t537)) (ds := []) #[false, false, false, false, false, false, false, false, false, false, false, false, false, false] (by kernel_rfl) rfl rfl ⟨(blk_cell BK539.out 0).trans rfl, (blk_cell BK539.out 1).trans rfl, (blk_cell BK539.out 2).trans rfl⟩ (fun hHeld => ?_); refine with_tabW laws_FnReadIns.tab8 laws_FnReadIns.bits8 (fun HT_ HW_ => ?_)
      generalize wc.drew = w44 at BK539 BK544 HB hHeld ⊢
      refine take_ (i := 0) (N := some 48) (v := ?_) (a' := ?_) #[true, false, false, false, false, false, false, false, false, false, false, false, false, false] rfl rfl (take_ofW HT_.out HW_.out (by kernel_rfl)) (fun _ _ _ h => h) (Or.inl ⟨by rfl, ?_⟩) hHeld ?_ ?_
      rotate_left
      ·rintro w' ⟨s0, s1, s2⟩
       go_simp
       with_reducible rfl
      rotate_left
      ·simp only [Act.put, List.setIfInBounds_toArray, List.set_cons_zero, List.set_cons_succ, i64_w, i32_w]
       rfl
      refine one_ (i := 1) (N := some 49) #[true, true, false, false, false, false, false, false, false, false, false, false, false, false] rfl rfl (one_of HT_.out (by kernel_rfl)) (by decide) (fun K hK => ?_)
      refine goes_ Tryz.func20 (by kernel_rfl) rfl #[.agg #[.int .i64 t535, .bool t536, .int .i64 t537]] (by rfl) rfl rfl q51_ ?_
      with_reducible refine (impl_InsOk.calls kj6 t535 t536 t537 false _ A35.out).mono ?_
      rintro e w45 ⟨rfl, hb⟩
      refine ⟨_, rfl, ?_⟩
      have n0_ := Aside0.mk (blk_below (g := gb539) (o := .cells #[.int .i64 t535, .bool t536, .int .i64 t537] 30 (0, 0)) q65_ hb)
      have n1_ := Aside0.mk (blk_below (g := gb544) (o := .cells #[.int .i64 t540, .bool t541, .int .i64 t542] 30 (0, 0)) q66_ hb)
      have n2_ := Aside0.mk (below_step q28_ hb)
      clear BK539
      clear BK544
      clear HB
      have BK539 := n0_
      have BK544 := n1_
      have HB := n2_
      clear n0_ n1_ n2_
      (try clear hb)
      (try clear hb2)
      (try clear hk)
      (try clear hi)
      refine hK.out _ _ ⟨(blk_cell BK539.out 0).trans rfl, (blk_cell BK539.out 1).trans rfl, (blk_cell BK539.out 2).trans rfl⟩ (fun hHeld => ?_)
      clear hK K
      refine norm_ (a' := ?_) ?_ ?_
      rotate_left
      ·show Act.put _ (some 49) _ = _
       simp only [Act.put, List.setIfInBounds_toArray, List.set_cons_zero, List.set_cons_succ, i64_w, i32_w]
       rfl
      refine pure_ (i := 2) (N := some 50) (v := ?_) (a' := ?_) #[true, true, true, false, false, false, false, false, false, false, false, false, false, false] rfl rfl (any_of HT_.out (by kernel_rfl)) (fun _ _ _ h => h) (Or.inl ⟨by rfl, ?_⟩) ?_ ?_
      rotate_left
      ·intro w'
       go_simp
       with_reducible rfl
      rotate_left
      ·simp only [Act.put, List.setIfInBounds_toArray, List.set_cons_zero, List.set_cons_succ, i64_w, i32_w]
       rfl
      refine pure_ (i := 3) (N := some 51) (v := undef) (a' := ?_) #[true, true, true, true, false, false, false, false, false, false, false, false, false, false] rfl rfl (any_of HT_.out (by kernel_rfl)) (fun _ _ _ h => h) (Or.inr ⟨by rfl, rfl⟩) ?_ ?_
      rotate_left
      ·simp only [Act.put, List.setIfInBounds_toArray, List.set_cons_zero, List.set_cons_succ, i64_w, i32_w]
       rfl
      refine pure_ (i := 4) (N := some 52) (v := undef) (a' := ?_) #[true, true, true, true, true, false, false, false, false, false, false, false, false, false] rfl rfl (any_of HT_.out (by kernel_rfl)) (fun _ _ _ h => h) (Or.inr ⟨by rfl, rfl⟩) ?_ ?_
      rotate_left
      ·simp only [Act.put, List.setIfInBounds_toArray, List.set_cons_zero, List.set_cons_succ, i64_w, i32_w]
       rfl
      refine pure_ (i := 5) (N := some 53) (v := undef) (a' := ?_) #[true, true, true, true, true, true, false, false, false, false, false, false, false, false] rfl rfl (any_of HT_.out (by kernel_rfl)) (fun _ _ _ h => h) (Or.inr ⟨by rfl, rfl⟩) ?_ ?_
      rotate_left
      ·simp only [Act.put, List.setIfInBounds_toArray, List.set_cons_zero, List.set_cons_succ, i64_w, i32_w]
       rfl
      refine pure_ (i := 6) (N := some 54) (v := undef) (a' := ?_) #[true, true, true, true, true, true, true, false, false, false, false, false, false, false] rfl rfl (any_of HT_.out (by kernel_rfl)) (fun _ _ _ h => h) (Or.inr ⟨by rfl, rfl⟩) ?_ ?_
      rotate_left
      ·simp only [Act.put, List.setIfInBounds_toArray, List.set_cons_zero, List.set_cons_succ, i64_w, i32_w]
       rfl
      refine pure_ (i := 7) (N := some 55) (v := undef) (a' := ?_) #[true, true, true, true, true, true, true, true, false, false, false, false, false, false] rfl rfl (any_of HT_.out (by kernel_rfl)) (fun _ _ _ h => h) (Or.inr ⟨by rfl, rfl⟩) ?_ ?_
      rotate_left
      ·simp only [Act.put, List.setIfInBounds_toArray, List.set_cons_zero, List.set_cons_succ, i64_w, i32_w]
       rfl
      refine pure_ (i := 8) (N := some 56) (v := undef) (a' := ?_) #[true, true, true, true, true, true, true, true, true, false, false, false, false, false] rfl rfl (any_of HT_.out (by kernel_rfl)) (fun _ _ _ h => h) (Or.inr ⟨by rfl, rfl⟩) ?_ ?_
      rotate_left
      ·simp only [Act.put, List.setIfInBounds_toArray, List.set_cons_zero, List.set_cons_succ, i64_w, i32_w]
       rfl
      refine pure_ (i := 9) (N := some 57) (v := undef) (a' := ?_) #[true, true, true, true, true, true, true, true, true, true, false, false, false, false] rfl rfl (any_of HT_.out (by kernel_rfl)) (fun _ _ _ h => h) (Or.inr ⟨by rfl, rfl⟩) ?_ ?_
      rotate_left
      ·simp only [Act.put, List.setIfInBounds_toArray, List.set_cons_zero, List.set_cons_succ, i64_w, i32_w]
       rfl
      refine pure_ (i := 10) (N := some 58) (v := undef) (a' := ?_) #[true, true, true, true, true, true, true, true, true, true, true, false, false, false] rfl rfl (any_of HT_.out (by kernel_rfl)) (fun _ _ _ h => h) (Or.inr ⟨by rfl, rfl⟩) ?_ ?_
      rotate_left
      ·simp only [Act.put, List.setIfInBounds_toArray, List.set_cons_zero, List.set_cons_succ, i64_w, i32_w]
       rfl
      refine pure_ (i := 11) (N := some 59) (v := undef) (a' := ?_) #[true, true, true, true, true, true, true, true, true, true, true, true, false, false] rfl rfl (any_of HT_.out (by kernel_rfl)) (fun _ _ _ h => h) (Or.inr ⟨by rfl, rfl⟩) ?_ ?_
      rotate_left
      ·simp only [Act.put, List.setIfInBounds_toArray, List.set_cons_zero, List.set_cons_succ, i64_w, i32_w]
       rfl
      refine pure_ (i := 12) (N := some 60) (v := ?_) (a' := ?_) #[true, true, true, true, true, true, true, true, true, true, true, true, true, false] rfl rfl (any_of HT_.out (by kernel_rfl)) (fun _ _ _ h => h) (Or.inl ⟨by rfl, ?_⟩) ?_ ?_
      rotate_left
      ·intro w'
       go_simp
       with_reducible rfl
      rotate_left
      ·simp only [Act.put, List.setIfInBounds_toArray, List.set_cons_zero, List.set_cons_succ, i64_w, i32_w]
       rfl
      refine pure_ (i := 13) (N := some 2) (v := ?_) (a' := ?_) #[true, true, true, true, true, true, true, true, true, true, true, true, true, true] rfl rfl (any_of HT_.out (by kernel_rfl)) (fun _ _ _ h => h) (Or.inl ⟨by rfl, ?_⟩) ?_ ?_
      rotate_left
      ·intro w'
       go_simp
       with_reducible rfl
      rotate_left
      ·simp only [Act.put, List.setIfInBounds_toArray, List.set_cons_zero, List.set_cons_succ, i64_w, i32_w]
       rfl
      refine done_ (done_of HT_.out (by kernel_rfl)) ?_
      try go_wp2
      go_ret
      exact ⟨q54_, q28_⟩
/-- THE ONE PURE STATEMENT of laws_FnReadIns: yours. -/
def laws_FnReadIns.Pure : Prop := ∀ (l0 : List Int), l0.length ≤ maxLen → l0.length * 1 ≤ 140737488351232 → (∀ x ∈ l0, (Lit.int .u8 x).wf = true) → ∃ k, laws_FnReadIns.f k l0 = some true
theorem laws_FnReadIns.walk (P : laws_FnReadIns.Pure) (a0 : Option Addr) (len0 cap0 : Nat) (z0 : List Int) (w : World) (w0 : (a0 = none ∧ len0 = 0 ∧ cap0 = 0 ∧ z0 = []) ∨ ∃ x, a0 = some x ∧ len0 ≤ cap0 ∧ cap0 ≤ maxLen ∧ z0.length = cap0 ∧ (∀ i, i < z0.length → w.cell? (x.add i) = some (.int .u8 (z0.getD i 0))) ∧ ∀ n ∈ z0, (Lit.int .u8 n).wf = true) (y0 : len0 * 1 ≤ 140737488351232) (hG : Go.Proofs.YtodlnnoekccmmaaGreatDoor.LibW.GL w) :
  Calls Tryz.prog 5 #[.slice a0 len0 cap0] w fun e w' => e = .returned (.bool true) ∧ Below w.heap.size w w' := by
 obtain ⟨l0, rfl, hr0, hm0, hw0, hc0⟩ := ReadsInt.ofRowC w0
 obtain ⟨k, h⟩ := P l0 hm0 y0 hw0
 refine (laws_FnReadIns.calls k _ _ l0 true w (Kd.C_of_reads (d := (0 : Int)) (h1 := fun _ => rfl) hr0) hc0 h).mono ?_
 rintro e w' ⟨rfl, hd⟩
 exact ⟨rfl, hd⟩
end Go.Proofs.YtodlnnoekccmmaaGreatDoor.QFnReadIns
