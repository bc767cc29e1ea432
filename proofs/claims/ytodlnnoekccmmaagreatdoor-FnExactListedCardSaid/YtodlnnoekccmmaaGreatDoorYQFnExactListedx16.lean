/- The machine's side of a law,written by a program of this session for this claim. -/
import Derived.Test.YtodlnnoekccmmaaGreatDoorYQq
import Derived.Test.YtodlnnoekccmmaaGreatDoorYQFnExactListedx0
import Derived.Test.YtodlnnoekccmmaaGreatDoorYQFnExactListedx9
import Derived.Test.YtodlnnoekccmmaaGreatDoorYQFnExactListedx14
import Derived.Test.YtodlnnoekccmmaaGreatDoorYQFnExactListedx15
namespace Go.Proofs.YtodlnnoekccmmaaGreatDoor.QFnExactListed
open Go.Proofs.YtodlnnoekccmmaaGreatDoor.Qq
open Go.RowKit Go.Proofs.YtodlnnoekccmmaaGreatDoor.LibX Go.Proofs.YtodlnnoekccmmaaGreatDoor.LibE Go.Proofs.YtodlnnoekccmmaaGreatDoorW.PrintWords Go.Proofs.YtodlnnoekccmmaaGreatDoorW.PrintLast Go.Proofs.YtodlnnoekccmmaaGreatDoorW.PrintMore
attribute [local go_sem] max2_int min2_int max_two min_two max_three min_three max_four min_four   -- for this text's walks alone
set_option maxHeartbeats 8000000
set_option maxRecDepth 100000
set_option linter.unusedVariables false
set_option linter.unusedSimpArgs false
mutual
def impl_ReadIns.j0:Nat → ByteArray → Int → Bool → Int → Bool → Int → Option (Int × Bool × Int × Int)
 | 0,_,_,_,_,_,_ => none
 | k + 1,x0,x7,x44,x488000,x488001,x488002 => if x44 = true then (some (0,false,0,0)) else (impl_ReadIns.l0 k x0 x7 (wrap64 (x7 - 1)) x488000 x488001 x488002)
def impl_ReadIns.l0:Nat → ByteArray → Int → Int → Int → Bool → Int → Option (Int × Bool × Int × Int)
 | 0,_,_,_,_,_,_ => none
 | k + 1,x0,x7,x8,x488000,x488001,x488002 => if x8 > 0 then (if 0 ≤ x8 then (if x8 < (x0.size:Int) then (impl_ReadIns.l0 k x0 x7 (wrap64 (x8 - 1)) x488000 x488001 (Go.bits .or .i64 (wrap64 (x488002 * 256)) (wrap64 (bt x0 x8)))) else (none)) else (none)) else (some (x488000,x488001,x488002,x7))
end
def impl_ReadIns.f (k:Nat) (a0:ByteArray) (a1:Int):Option (Int × Bool × Int × Int):=(impl_within.f a1 0 (wrap64 ((a0.size:Int) - 1))).bind fun t486 => (if t486 = true then (if 0 ≤ a1 then (if a1 ≤ (a0.size:Int) then (if 0 < ((a0.extract (a1:Int).toNat a0.size).size:Int) then (if (bt (a0.extract (a1:Int).toNat a0.size) 0) = 203 then (if ((a0.extract (a1:Int).toNat a0.size).size:Int) < 2 then (some (0,false,0,0)) else (if 1 < ((a0.extract (a1:Int).toNat a0.size).size:Int) then (some (wrap64 (bt (a0.extract (a1:Int).toNat a0.size) 1),true,0,2)) else (none))) else ((impl_LengthOf.f k (wrap64 (bt (a0.extract (a1:Int).toNat a0.size) 0)) false).bind fun t488 => (if t488 = 0 then (impl_ReadIns.j0 k (a0.extract (a1:Int).toNat a0.size) t488 true (wrap64 (bt (a0.extract (a1:Int).toNat a0.size) 0)) false 0) else (impl_ReadIns.j0 k (a0.extract (a1:Int).toNat a0.size) t488 (decide (((a0.extract (a1:Int).toNat a0.size).size:Int) < t488)) (wrap64 (bt (a0.extract (a1:Int).toNat a0.size) 0)) false 0)))) else (none)) else (none)) else (none)) else (some (0,false,0,0)))
theorem impl_ReadIns.mono_l:∀ k,(∀ y0 y1 y2 y3 y4 y5,LeO (impl_ReadIns.j0 k y0 y1 y2 y3 y4 y5) (impl_ReadIns.j0 (k + 1) y0 y1 y2 y3 y4 y5)) ∧ (∀ y0 y1 y2 y3 y4 y5,LeO (impl_ReadIns.l0 k y0 y1 y2 y3 y4 y5) (impl_ReadIns.l0 (k + 1) y0 y1 y2 y3 y4 y5))
 | 0 => ⟨fun _ _ _ _ _ _ r h => by simp [impl_ReadIns.j0] at h,fun _ _ _ _ _ _ r h => by simp [impl_ReadIns.l0] at h⟩
 | k + 1 => by
  obtain ⟨ih0,ih1⟩:=impl_ReadIns.mono_l k
  refine ⟨?_,?_⟩
  ·intro y0 y1 y2 y3 y4 y5
   unfold impl_ReadIns.j0
   repeat' first
   | (with_reducible first | exact ih0 _ _ _ _ _ _ | exact ih1 _ _ _ _ _ _ | exact impl_LengthOf.mono _ _ _ | exact LeO.refl _ | exact LeO.none _ | refine LeO.ite ?_ ?_ | refine LeO.bind ?_ (fun _ => ?_))
   | exact ih0 _ _ _ _ _ _
   | exact ih1 _ _ _ _ _ _
   | exact impl_LengthOf.mono _ _ _
   | exact LeO.none _
   | refine LeO.ite ?_ ?_
   | refine LeO.bind ?_ (fun _ => ?_)
  intro y0 y1 y2 y3 y4 y5
  unfold impl_ReadIns.l0
  repeat' first
  | (with_reducible first | exact ih0 _ _ _ _ _ _ | exact ih1 _ _ _ _ _ _ | exact impl_LengthOf.mono _ _ _ | exact LeO.refl _ | exact LeO.none _ | refine LeO.ite ?_ ?_ | refine LeO.bind ?_ (fun _ => ?_))
  | exact ih0 _ _ _ _ _ _
  | exact ih1 _ _ _ _ _ _
  | exact impl_LengthOf.mono _ _ _
  | exact LeO.none _
  | refine LeO.ite ?_ ?_
  | refine LeO.bind ?_ (fun _ => ?_)
theorem impl_ReadIns.mono:∀ a0 a1 k,LeO (impl_ReadIns.f k a0 a1) (impl_ReadIns.f (k + 1) a0 a1):=by
 intro a0 a1 k
 obtain ⟨ih0,ih1⟩:=impl_ReadIns.mono_l k
 unfold impl_ReadIns.f
 repeat' first
   | (with_reducible first | exact ih0 _ _ _ _ _ _ | exact ih1 _ _ _ _ _ _ | exact impl_LengthOf.mono _ _ _ | exact LeO.refl _ | exact LeO.none _ | refine LeO.ite ?_ ?_ | refine LeO.bind ?_ (fun _ => ?_))
   | exact ih0 _ _ _ _ _ _
   | exact ih1 _ _ _ _ _ _
   | exact impl_LengthOf.mono _ _ _
   | exact LeO.none _
   | refine LeO.ite ?_ ?_
   | refine LeO.bind ?_ (fun _ => ?_)
def impl_ReadIns.T15:Bool × List (List Nat × List Nat):=(true,[([],[]),([0],[0]),([1],[1]),([],[]),([],[]),([3,4],[3,4]),([5],[5]),([2,6],[2,6]),([0,1,2,3,4,5,6,7],[]),([8,7,0,1,2,3,4,5,6,7],[7,8])])
def impl_ReadIns.B15:List Nat:=[0,1,3,0,0,24,56,127,255,511]
theorem impl_ReadIns.tab15:rtab .any (opsOf Tryz.f22 15) = impl_ReadIns.T15:=by kernel_rfl
theorem impl_ReadIns.bits15:waitsOk impl_ReadIns.T15.2 impl_ReadIns.B15 = true:=by kernel_rfl
theorem impl_ReadIns.calls (k:Nat) (a0:ByteArray) (a1:Int) (r1:Int) (r2:Bool) (r3:Int) (r4:Int) (w:World) (h:impl_ReadIns.f k a0 a1 = some (r1,r2,r3,r4)) (hG:Go.Proofs.YtodlnnoekccmmaaGreatDoor.LibW.GL w:=by first | exact hG | exact hG.below q4_ | exact hG.drewN _) :
  Calls Tryz.prog 22 #[.string a0,.int .i64 a1] w fun e w' => e = .returned (.tuple #[.agg #[.int .i64 r1,.bool r2,.int .i64 r3],.int .i64 r4]) ∧ Below w.heap.size w w':=by
 have hu30:=Tryz.underlying30
 have HB:=Aside0.mk (Below.refl w.heap.size w)
 have H:((impl_within.f a1 0 (wrap64 ((a0.size:Int) - 1))).bind fun t486 => (if t486 = true then (if 0 ≤ a1 then (if a1 ≤ (a0.size:Int) then (if 0 < ((a0.extract (a1:Int).toNat a0.size).size:Int) then (if (bt (a0.extract (a1:Int).toNat a0.size) 0) = 203 then (if ((a0.extract (a1:Int).toNat a0.size).size:Int) < 2 then (some (0,false,0,0)) else (if 1 < ((a0.extract (a1:Int).toNat a0.size).size:Int) then (some (wrap64 (bt (a0.extract (a1:Int).toNat a0.size) 1),true,0,2)) else (none))) else ((impl_LengthOf.f k (wrap64 (bt (a0.extract (a1:Int).toNat a0.size) 0)) false).bind fun t488 => (if t488 = 0 then (impl_ReadIns.j0 k (a0.extract (a1:Int).toNat a0.size) t488 true (wrap64 (bt (a0.extract (a1:Int).toNat a0.size) 0)) false 0) else (impl_ReadIns.j0 k (a0.extract (a1:Int).toNat a0.size) t488 (decide (((a0.extract (a1:Int).toNat a0.size).size:Int) < t488)) (wrap64 (bt (a0.extract (a1:Int).toNat a0.size) 0)) false 0)))) else (none)) else (none)) else (none)) else (some (0,false,0,0)))) = some (r1,r2,r3,r4):=h
 clear h
 replace H:=Option.bind_eq_some_iff.mp H
 obtain ⟨t486,A30,H⟩:=H
 have A3:=Aside0.mk A30
 clear A30
 by_cases c4:t486 = true
 ·subst c4
  replace H:(if 0 ≤ a1 then (if a1 ≤ (a0.size:Int) then (if 0 < ((a0.extract (a1:Int).toNat a0.size).size:Int) then (if (bt (a0.extract (a1:Int).toNat a0.size) 0) = 203 then (if ((a0.extract (a1:Int).toNat a0.size).size:Int) < 2 then (some (0,false,0,0)) else (if 1 < ((a0.extract (a1:Int).toNat a0.size).size:Int) then (some (wrap64 (bt (a0.extract (a1:Int).toNat a0.size) 1),true,0,2)) else (none))) else ((impl_LengthOf.f k (wrap64 (bt (a0.extract (a1:Int).toNat a0.size) 0)) false).bind fun t488 => (if t488 = 0 then (impl_ReadIns.j0 k (a0.extract (a1:Int).toNat a0.size) t488 true (wrap64 (bt (a0.extract (a1:Int).toNat a0.size) 0)) false 0) else (impl_ReadIns.j0 k (a0.extract (a1:Int).toNat a0.size) t488 (decide (((a0.extract (a1:Int).toNat a0.size).size:Int) < t488)) (wrap64 (bt (a0.extract (a1:Int).toNat a0.size) 0)) false 0)))) else (none)) else (none)) else (none)) = some (r1,r2,r3,r4):=by rw [if_pos rfl] at H;exact H
  by_cases c5:0 ≤ a1
  rotate_left
  ·rw [if_neg c5] at H
   exact absurd H (by simp)
  rw [if_pos c5] at H
  have c5b0:=eq_true c5
  have c5b1:decide (0 ≤ a1) = true:=decide_eq_true c5
  clear c5
  by_cases c6:a1 ≤ (a0.size:Int)
  rotate_left
  ·rw [if_neg c6] at H
   exact absurd H (by simp)
  rw [if_pos c6] at H
  have c6b0:=eq_true c6
  have c6b1:decide (a1 ≤ (a0.size:Int)) = true:=decide_eq_true c6
  clear c6
  by_cases c7:0 < ((a0.extract (a1:Int).toNat a0.size).size:Int)
  rotate_left
  ·rw [if_neg c7] at H
   exact absurd H (by simp)
  rw [if_pos c7] at H
  have c7b0:decide (0 < ((a0.extract (a1:Int).toNat a0.size).size:Int)) = true:=decide_eq_true c7
  (try (have c7b0e:=c7b0;simp only [ByteArray.size_append,ByteArray.size_extract,Nat.min_self,Nat.sub_zero] at c7b0e))
  (try (first | (have c7b0p:=eq_true (of_decide_eq_true c7b0e)) | (have c7b0p:=eq_false (of_decide_eq_false c7b0e))))
  have c7b1:decide (0 < (a0.extract (a1:Int).toNat a0.size).size) = true:=decide_eq_true (by omega)
  (try (have c7b1e:=c7b1;simp only [ByteArray.size_append,ByteArray.size_extract,Nat.min_self,Nat.sub_zero] at c7b1e))
  (try (first | (have c7b1p:=eq_true (of_decide_eq_true c7b1e)) | (have c7b1p:=eq_false (of_decide_eq_false c7b1e))))
  clear c7
  by_cases c9:(bt (a0.extract (a1:Int).toNat a0.size) 0) = 203
  ·rw [if_pos c9] at H
   have c9b0:((bt (a0.extract (a1:Int).toNat a0.size) 0) == 203) = true:=beq_iff_eq.mpr c9
   have c9b1:((bt (a0.extract (a1:Int).toNat a0.size) 0) != 203) = false:=bne_eq_false_iff_eq.mpr c9
   clear c9
   by_cases c10:((a0.extract (a1:Int).toNat a0.size).size:Int) < 2
   ·rw [if_pos c10] at H
    have c10b0:decide (((a0.extract (a1:Int).toNat a0.size).size:Int) < 2) = true:=decide_eq_true c10
    (try (have c10b0e:=c10b0;simp only [ByteArray.size_append,ByteArray.size_extract,Nat.min_self,Nat.sub_zero] at c10b0e))
    (try (first | (have c10b0p:=eq_true (of_decide_eq_true c10b0e)) | (have c10b0p:=eq_false (of_decide_eq_false c10b0e))))
    have c10b1:decide ((a0.extract (a1:Int).toNat a0.size).size < 2) = true:=decide_eq_true (by omega)
    (try (have c10b1e:=c10b1;simp only [ByteArray.size_append,ByteArray.size_extract,Nat.min_self,Nat.sub_zero] at c10b1e))
    (try (first | (have c10b1p:=eq_true (of_decide_eq_true c10b1e)) | (have c10b1p:=eq_false (of_decide_eq_false c10b1e))))
    clear c10
    simp only [Option.some.injEq,Prod.mk.injEq] at H
    obtain ⟨rfl,rfl,rfl,rfl⟩:=H
    go_enter Tryz.func22,Tryz.ntmps22
    go_wp2_with (first | ((with_reducible refine gate_dst (N:=4) rfl ?_);(try (refine gate_guard (by rfl) ?_;dsimp only));refine box_event ?hg (N:=4) ?hd (cs:=#[.int .i64 0,.bool false,.int .i64 0]) (t:=30) ?hr ?_;(case hd => rfl);(case hg => rfl);(case hr => exact q114_);intro gb485 hg w11 hbox hb;have n0_:=Aside0.mk (below_step q50_ hb);have n1_:=Aside0.mk (hbox);have n2_:=Aside0.mk ((q28_:w.heap.size ≤ gb485));have n3_:=Aside0.mk ((q28_:w.heap.size ≤ gb485));clear HB;have HB:=n0_;have BK485:=n1_;have GW485:=n2_;have GE485:=n3_;clear n0_ n1_ n2_ n3_;clear hb hbox hg) | ((with_reducible refine gate_callee (f:=61) rfl ?_);refine goesL_ (some 13) rfl rfl Tryz.func61 (by kernel_rfl) rfl #[.int .i64 a1,.int .i64 0,.int .i64 (wrap64 ((a0.size:Int) - 1))] rfl q6_ ?_;(with_reducible refine (impl_within.calls a1 0 (wrap64 ((a0.size:Int) - 1)) true _ A3.out).mono ?_);rintro e w' ⟨rfl,⟨nd,rfl⟩⟩;refine ⟨_,rfl,?_⟩;(try (rw [drewN_self w11];generalize hq_:World.drewN w11 _ = w11;have n0_:Aside0 (w11.heap[gb485]? = some (.cells #[.int .i64 0,.bool false,.int .i64 0] 30 (0,0))):=⟨q45_⟩;have n1_:Aside0 (Below w.heap.size w w11):=⟨q26_⟩;clear BK485 HB hq_;have BK485:=n0_;have HB:=n1_;clear n0_ n1_));have p8:0 ≤ (0:Int):=(by omega);have q8:0 < (a0.extract (a1:Int).toNat a0.size).size:=(by have:(0:Int) < ((a0.extract (a1:Int).toNat a0.size).size:Int):=of_decide_eq_true q86_;omega);have hx8:∀ h:0 < (a0.extract (a1:Int).toNat a0.size).size,(((a0.extract (a1:Int).toNat a0.size)[0]'h).toNat:Int) = bt (a0.extract (a1:Int).toNat a0.size) 0:=bt_at (a0.extract (a1:Int).toNat a0.size) 0;clear p8;have qi8:(0 < ((a0.extract (a1:Int).toNat a0.size).size:Int)) = True:=eq_true (of_decide_eq_true q86_);replace q8:=eq_true q8;have hcz12_0:w11.cell? ⟨gb485,0,none⟩ = some (.int .i64 0):=(blk_cell BK485.out 0).trans rfl;have hcz12_1:w11.cell? ⟨gb485,1,none⟩ = some (.bool false):=(blk_cell BK485.out 1).trans rfl;have hcz12_2:w11.cell? ⟨gb485,2,none⟩ = some (.int .i64 0):=(blk_cell BK485.out 2).trans rfl;have hfz12_0:=blk_frozen BK485.out 0;have hfz12_1:=blk_frozen BK485.out 1;have hfz12_2:=blk_frozen BK485.out 2))
    refine bodyPost_ret (results_ct rfl _ _ gb485 30 #[.int .i64 0,.bool false,.int .i64 0] (0,0) _ rfl q3_ Tryz.underlying30 rfl (by kernel_rfl)) rfl ?_
    exact ⟨q53_,q36_⟩
   rw [if_neg c10] at H
   have c10b0:decide (((a0.extract (a1:Int).toNat a0.size).size:Int) < 2) = false:=decide_eq_false c10
   (try (have c10b0e:=c10b0;simp only [ByteArray.size_append,ByteArray.size_extract,Nat.min_self,Nat.sub_zero] at c10b0e))
   (try (first | (have c10b0p:=eq_true (of_decide_eq_true c10b0e)) | (have c10b0p:=eq_false (of_decide_eq_false c10b0e))))
   have c10b1:decide ((a0.extract (a1:Int).toNat a0.size).size < 2) = false:=decide_eq_false (by omega)
   (try (have c10b1e:=c10b1;simp only [ByteArray.size_append,ByteArray.size_extract,Nat.min_self,Nat.sub_zero] at c10b1e))
   (try (first | (have c10b1p:=eq_true (of_decide_eq_true c10b1e)) | (have c10b1p:=eq_false (of_decide_eq_false c10b1e))))
   clear c10
   by_cases c13:1 < ((a0.extract (a1:Int).toNat a0.size).size:Int)
   rotate_left
   ·rw [if_neg c13] at H
    exact absurd H (by simp)
   rw [if_pos c13] at H
   have c13b0:decide (1 < ((a0.extract (a1:Int).toNat a0.size).size:Int)) = true:=decide_eq_true c13
   (try (have c13b0e:=c13b0;simp only [ByteArray.size_append,ByteArray.size_extract,Nat.min_self,Nat.sub_zero] at c13b0e))
   (try (first | (have c13b0p:=eq_true (of_decide_eq_true c13b0e)) | (have c13b0p:=eq_false (of_decide_eq_false c13b0e))))
   have c13b1:decide (1 < (a0.extract (a1:Int).toNat a0.size).size) = true:=decide_eq_true (by omega)
   (try (have c13b1e:=c13b1;simp only [ByteArray.size_append,ByteArray.size_extract,Nat.min_self,Nat.sub_zero] at c13b1e))
   (try (first | (have c13b1p:=eq_true (of_decide_eq_true c13b1e)) | (have c13b1p:=eq_false (of_decide_eq_false c13b1e))))
   clear c13
   simp only [Option.some.injEq,Prod.mk.injEq] at H
   obtain ⟨rfl,rfl,rfl,rfl⟩:=H
   go_enter Tryz.func22,Tryz.ntmps22
   go_wp2_with (first | ((with_reducible refine gate_dst (N:=4) rfl ?_);(try (refine gate_guard (by rfl) ?_;dsimp only));refine box_event ?hg (N:=4) ?hd (cs:=#[.int .i64 0,.bool false,.int .i64 0]) (t:=30) ?hr ?_;(case hd => rfl);(case hg => rfl);(case hr => exact q114_);intro gb485 hg w15 hbox hb;have n0_:=Aside0.mk (below_step q50_ hb);have n1_:=Aside0.mk (hbox);have n2_:=Aside0.mk ((q28_:w.heap.size ≤ gb485));have n3_:=Aside0.mk ((q28_:w.heap.size ≤ gb485));clear HB;have HB:=n0_;have BK485:=n1_;have GW485:=n2_;have GE485:=n3_;clear n0_ n1_ n2_ n3_;clear hb hbox hg) | ((with_reducible refine gate_callee (f:=61) rfl ?_);refine goesL_ (some 13) rfl rfl Tryz.func61 (by kernel_rfl) rfl #[.int .i64 a1,.int .i64 0,.int .i64 (wrap64 ((a0.size:Int) - 1))] rfl q6_ ?_;(with_reducible refine (impl_within.calls a1 0 (wrap64 ((a0.size:Int) - 1)) true _ A3.out).mono ?_);rintro e w' ⟨rfl,⟨nd,rfl⟩⟩;refine ⟨_,rfl,?_⟩;(try (rw [drewN_self w15];generalize hq_:World.drewN w15 _ = w15;have n0_:Aside0 (w15.heap[gb485]? = some (.cells #[.int .i64 0,.bool false,.int .i64 0] 30 (0,0))):=⟨q45_⟩;have n1_:Aside0 (Below w.heap.size w w15):=⟨q26_⟩;clear BK485 HB hq_;have BK485:=n0_;have HB:=n1_;clear n0_ n1_));have p8:0 ≤ (0:Int):=(by omega);have q8:0 < (a0.extract (a1:Int).toNat a0.size).size:=(by have:(0:Int) < ((a0.extract (a1:Int).toNat a0.size).size:Int):=of_decide_eq_true q86_;omega);have hx8:∀ h:0 < (a0.extract (a1:Int).toNat a0.size).size,(((a0.extract (a1:Int).toNat a0.size)[0]'h).toNat:Int) = bt (a0.extract (a1:Int).toNat a0.size) 0:=bt_at (a0.extract (a1:Int).toNat a0.size) 0;clear p8;have qi8:(0 < ((a0.extract (a1:Int).toNat a0.size).size:Int)) = True:=eq_true (of_decide_eq_true q86_);replace q8:=eq_true q8;have p14:0 ≤ (1:Int):=(by omega);have q14:1 < (a0.extract (a1:Int).toNat a0.size).size:=(by have:(1:Int) < ((a0.extract (a1:Int).toNat a0.size).size:Int):=of_decide_eq_true q86_;omega);have hx14:∀ h:1 < (a0.extract (a1:Int).toNat a0.size).size,(((a0.extract (a1:Int).toNat a0.size)[1]'h).toNat:Int) = bt (a0.extract (a1:Int).toNat a0.size) 1:=bt_at (a0.extract (a1:Int).toNat a0.size) 1;clear p14;have qi14:(1 < ((a0.extract (a1:Int).toNat a0.size).size:Int)) = True:=eq_true (of_decide_eq_true q86_);replace q14:=eq_true q14;have hcz16_0:w15.cell? ⟨gb485,0,none⟩ = some (.int .i64 0):=(blk_cell BK485.out 0).trans rfl;have hcz16_1:w15.cell? ⟨gb485,1,none⟩ = some (.bool false):=(blk_cell BK485.out 1).trans rfl;have hcz16_2:w15.cell? ⟨gb485,2,none⟩ = some (.int .i64 0):=(blk_cell BK485.out 2).trans rfl;have hfz16_0:=blk_frozen BK485.out 0;have hfz16_1:=blk_frozen BK485.out 1;have hfz16_2:=blk_frozen BK485.out 2))
   refine bodyPost_ret (results_ct rfl _ _ gb485 30 #[.int .i64 (wrap64 (bt (a0.extract (a1:Int).toNat a0.size) 1)),.bool true,.int .i64 0] (0,0) _ rfl (by (with_reducible repeat (first | refine blk_drewN ?_ _ | refine blk_drew ?_ | refine blk_alloc ?_ _));refine blk_put (cs:=#[.int .i64 (wrap64 (bt (a0.extract (a1:Int).toNat a0.size) 1)),.bool true,.int .i64 0]) ?_ 2 _ rfl;(with_reducible repeat (first | refine blk_drewN ?_ _ | refine blk_drew ?_ | refine blk_alloc ?_ _));refine blk_put (cs:=#[.int .i64 (wrap64 (bt (a0.extract (a1:Int).toNat a0.size) 1)),.bool false,.int .i64 0]) ?_ 1 _ rfl;(with_reducible repeat (first | refine blk_drewN ?_ _ | refine blk_drew ?_ | refine blk_alloc ?_ _));refine blk_put (cs:=#[.int .i64 0,.bool false,.int .i64 0]) ?_ 0 _ rfl;(with_reducible repeat (first | refine blk_drewN ?_ _ | refine blk_drew ?_ | refine blk_alloc ?_ _));exact BK485.out) Tryz.underlying30 rfl (by kernel_rfl)) rfl ?_
   exact ⟨q53_,q36_⟩
  rw [if_neg c9] at H
  have c9b0:((bt (a0.extract (a1:Int).toNat a0.size) 0) == 203) = false:=beq_eq_false_iff_ne.mpr c9
  have c9b1:((bt (a0.extract (a1:Int).toNat a0.size) 0) != 203) = true:=bne_iff_ne.mpr c9
  replace H:=Option.bind_eq_some_iff.mp H
  obtain ⟨t488,A180,H⟩:=H
  have A18:=Aside0.mk A180
  clear A180
  have HC19:=Aside0.mk H
  clear H
  go_enter Tryz.func22,Tryz.ntmps22
  go_upto_region 10 with (first | ((with_reducible refine gate_dst (N:=4) rfl ?_);(try (refine gate_guard (by rfl) ?_;dsimp only));refine box_event ?hg (N:=4) ?hd (cs:=#[.int .i64 0,.bool false,.int .i64 0]) (t:=30) ?hr ?_;(case hd => rfl);(case hg => rfl);(case hr => exact q114_);intro gb485 hg w20 hbox hb;have n0_:=Aside0.mk (below_step q50_ hb);have n1_:=Aside0.mk (hbox);have n2_:=Aside0.mk ((q28_:w.heap.size ≤ gb485));have n3_:=Aside0.mk ((q28_:w.heap.size ≤ gb485));clear HB;have HB:=n0_;have BK485:=n1_;have GW485:=n2_;have GE485:=n3_;clear n0_ n1_ n2_ n3_;clear hb hbox hg) | ((with_reducible refine gate_callee (f:=61) rfl ?_);refine goesL_ (some 13) rfl rfl Tryz.func61 (by kernel_rfl) rfl #[.int .i64 a1,.int .i64 0,.int .i64 (wrap64 ((a0.size:Int) - 1))] rfl q6_ ?_;(with_reducible refine (impl_within.calls a1 0 (wrap64 ((a0.size:Int) - 1)) true _ A3.out).mono ?_);rintro e w' ⟨rfl,⟨nd,rfl⟩⟩;refine ⟨_,rfl,?_⟩;(try (rw [drewN_self w20];generalize hq_:World.drewN w20 _ = w20;have n0_:Aside0 (w20.heap[gb485]? = some (.cells #[.int .i64 0,.bool false,.int .i64 0] 30 (0,0))):=⟨q45_⟩;have n1_:Aside0 (Below w.heap.size w w20):=⟨q26_⟩;clear BK485 HB hq_;have BK485:=n0_;have HB:=n1_;clear n0_ n1_));have p8:0 ≤ (0:Int):=(by omega);have q8:0 < (a0.extract (a1:Int).toNat a0.size).size:=(by have:(0:Int) < ((a0.extract (a1:Int).toNat a0.size).size:Int):=of_decide_eq_true q86_;omega);have hx8:∀ h:0 < (a0.extract (a1:Int).toNat a0.size).size,(((a0.extract (a1:Int).toNat a0.size)[0]'h).toNat:Int) = bt (a0.extract (a1:Int).toNat a0.size) 0:=bt_at (a0.extract (a1:Int).toNat a0.size) 0;clear p8;have qi8:(0 < ((a0.extract (a1:Int).toNat a0.size).size:Int)) = True:=eq_true (of_decide_eq_true q86_);replace q8:=eq_true q8;have p17:0 ≤ (0:Int):=(by omega);have q17:0 < (a0.extract (a1:Int).toNat a0.size).size:=(by have:(0:Int) < ((a0.extract (a1:Int).toNat a0.size).size:Int):=of_decide_eq_true q86_;omega);have hx17:∀ h:0 < (a0.extract (a1:Int).toNat a0.size).size,(((a0.extract (a1:Int).toNat a0.size)[0]'h).toNat:Int) = bt (a0.extract (a1:Int).toNat a0.size) 0:=bt_at (a0.extract (a1:Int).toNat a0.size) 0;clear p17;have qi17:(0 < ((a0.extract (a1:Int).toNat a0.size).size:Int)) = True:=eq_true (of_decide_eq_true q86_);replace q17:=eq_true q17) | ((with_reducible refine gate_dst (N:=6) rfl ?_);(try (refine gate_guard (by rfl) ?_;dsimp only));refine box_event ?hg (N:=6) ?hd (cs:=#[.int .i64 0,.bool false,.int .i64 0]) (t:=30) ?hr ?_;(case hd => rfl);(case hg => rfl);(case hr => exact q114_);intro gb487 hg w21 hbox hb;have n0_:=Aside0.mk (blk_below (g:=gb485) (o:=.cells #[.int .i64 0,.bool false,.int .i64 0] 30 (0,0)) q62_ hb);have n1_:=Aside0.mk (below_step q36_ hb);have n2_:=Aside0.mk (hbox);have n3_:=Aside0.mk ((q22_:w.heap.size ≤ gb487));have n4_:=Aside0.mk ((q22_:w.heap.size ≤ gb487));have n5_:=Aside0.mk ((by rw [hg];exact Nat.ne_of_lt (blk_lt (g:=gb485) (o:=.cells #[.int .i64 0,.bool false,.int .i64 0] 30 (0,0)) q62_):gb485 ≠ gb487));have n6_:=Aside0.mk ((by rw [hg];exact Nat.ne_of_gt (blk_lt (g:=gb485) (o:=.cells #[.int .i64 0,.bool false,.int .i64 0] 30 (0,0)) q62_):gb487 ≠ gb485));clear BK485;clear HB;have BK485:=n0_;have HB:=n1_;have BK487:=n2_;have GW487:=n3_;have GE487:=n4_;have NB485_487:=n5_;have NB487_485:=n6_;clear n0_ n1_ n2_ n3_ n4_ n5_ n6_;clear hb hbox hg;have hnb22:=NB487_485.out;have hnc22:=NB485_487.out;have hcz23_0:w21.cell? ⟨gb487,0,none⟩ = some (.int .i64 0):=(blk_cell BK487.out 0).trans rfl;have hcz23_1:w21.cell? ⟨gb487,1,none⟩ = some (.bool false):=(blk_cell BK487.out 1).trans rfl;have hcz23_2:w21.cell? ⟨gb487,2,none⟩ = some (.int .i64 0):=(blk_cell BK487.out 2).trans rfl;have hfz23_0:=blk_frozen BK487.out 0;have hfz23_1:=blk_frozen BK487.out 1;have hfz23_2:=blk_frozen BK487.out 2) | ((with_reducible refine gate_callee (f:=13) rfl ?_);refine goesL_ (some 36) rfl rfl Tryz.func13 (by kernel_rfl) rfl #[.int .i64 (wrap64 (bt (a0.extract (a1:Int).toNat a0.size) 0)),.bool false] rfl (by (try simp only [List.map_toArray,List.map_cons,List.map_nil]);first | done | rfl | (simp only [List.length_drop,List.length_take];rfl) | (refine Eq.trans (b:=#[.int .i64 ((bt (a0.extract (a1:Int).toNat a0.size) 0)),.bool false]) rfl ?_;simp [wrap64] <;> omega)) ?_;(with_reducible refine (impl_LengthOf.calls k (wrap64 (bt (a0.extract (a1:Int).toNat a0.size) 0)) false t488 _ A18.out).mono ?_);rintro e w24 ⟨rfl,hb⟩;refine ⟨_,rfl,?_⟩;have n0_:=Aside0.mk (blk_below (g:=gb485) (o:=.cells #[.int .i64 0,.bool false,.int .i64 0] 30 (0,0)) (by (with_reducible repeat (first | refine blk_drewN ?_ _ | refine blk_drew ?_ | refine blk_alloc ?_ _));refine blk_far ?_ NB485_487.out _;(with_reducible repeat (first | refine blk_drewN ?_ _ | refine blk_drew ?_ | refine blk_alloc ?_ _));refine blk_far ?_ NB485_487.out _;(with_reducible repeat (first | refine blk_drewN ?_ _ | refine blk_drew ?_ | refine blk_alloc ?_ _));refine blk_far ?_ NB485_487.out _;(with_reducible repeat (first | refine blk_drewN ?_ _ | refine blk_drew ?_ | refine blk_alloc ?_ _));exact BK485.out) hb);have n1_:=Aside0.mk (blk_below (g:=gb487) (o:=.cells #[.int .i64 (wrap64 (bt (a0.extract (a1:Int).toNat a0.size) 0)),.bool false,.int .i64 0] 30 (0,0)) (by (with_reducible repeat (first | refine blk_drewN ?_ _ | refine blk_drew ?_ | refine blk_alloc ?_ _));refine blk_put (cs:=#[.int .i64 (wrap64 (bt (a0.extract (a1:Int).toNat a0.size) 0)),.bool false,.int .i64 0]) ?_ 2 _ rfl;(with_reducible repeat (first | refine blk_drewN ?_ _ | refine blk_drew ?_ | refine blk_alloc ?_ _));refine blk_put (cs:=#[.int .i64 (wrap64 (bt (a0.extract (a1:Int).toNat a0.size) 0)),.bool false,.int .i64 0]) ?_ 1 _ rfl;(with_reducible repeat (first | refine blk_drewN ?_ _ | refine blk_drew ?_ | refine blk_alloc ?_ _));refine blk_put (cs:=#[.int .i64 0,.bool false,.int .i64 0]) ?_ 0 _ rfl;(with_reducible repeat (first | refine blk_drewN ?_ _ | refine blk_drew ?_ | refine blk_alloc ?_ _));exact BK487.out) hb);have n2_:=Aside0.mk (below_step q24_ hb);clear BK485;clear BK487;clear HB;have BK485:=n0_;have BK487:=n1_;have HB:=n2_;clear n0_ n1_ n2_;(try clear hb)))
  (try simp only [Act.put,List.setIfInBounds_toArray,List.set_cons_zero,List.set_cons_succ])
  go_cut [44] (fun v44 wc => ∃ (kq:Nat) (x44_18:Bool),v44 = .bool x44_18 ∧ Aside0 (impl_ReadIns.j0 kq (a0.extract (a1:Int).toNat a0.size) t488 x44_18 (wrap64 (bt (a0.extract (a1:Int).toNat a0.size) 0)) false 0 = some (r1,r2,r3,r4)) ∧ Aside0 (kq ≤ k) ∧ Aside0 (wc.heap[gb485]? = some (.cells #[.int .i64 0,.bool false,.int .i64 0] 30 (0,0))) ∧ Aside0 (wc.heap[gb487]? = some (.cells #[.int .i64 (wrap64 (bt (a0.extract (a1:Int).toNat a0.size) 0)),.bool false,.int .i64 0] 30 (0,0))) ∧ Aside0 (Below w.heap.size w wc))
  case first =>
   have H:=HC19.out
   clear HC19
   by_cases c25:t488 = 0
   ·rw [if_pos c25] at H
    have c25b0:(t488 == 0) = true:=beq_iff_eq.mpr c25
    have c25b1:(t488 != 0) = false:=bne_eq_false_iff_eq.mpr c25
    clear c25
    (first | rw [c25b0] | (simp only [i64_w,i32_w];rw [c25b0]) | skip)
    have H':=Aside0.mk H
    clear H
    go_wp2
    go_meet
    case rel => exact ⟨_,(true),q69_,H',⟨q98_⟩,⟨q62_⟩,⟨q63_⟩,⟨q24_⟩⟩
   rw [if_neg c25] at H
   have c25b0:(t488 == 0) = false:=beq_eq_false_iff_ne.mpr c25
   have c25b1:(t488 != 0) = true:=bne_iff_ne.mpr c25
   (first | rw [c25b0] | (simp only [i64_w,i32_w];rw [c25b0]) | skip)
   have H':=Aside0.mk H
   clear H
   go_wp2
   go_meet
   case rel => exact ⟨_,(decide (((a0.extract (a1:Int).toNat a0.size).size:Int) < t488)),q69_,H',⟨q98_⟩,⟨q62_⟩,⟨q63_⟩,⟨q24_⟩⟩
  clear HC19
  try clear c1
  try clear p1
  try clear q1
  try clear hx1
  try clear qi1
  try clear c2
  try clear p2
  try clear c4
  try clear c5
  try clear c5b0
  try clear c5b1
  try clear c6
  try clear c6b0
  try clear c6b1
  try clear p6
  try clear c7
  try clear c7b0
  try clear c7b1
  try clear p8 p8
  try clear q8 q8
  try clear hx8
  try clear qi8
  try clear c9
  try clear c9b0
  try clear c9b1
  try clear c10
  try clear c10b0
  try clear c10b1
  try clear c13
  try clear c13b0
  try clear c13b1
  try clear p14 p14
  try clear q14 q14
  try clear hx14
  try clear qi14
  try clear p17 p17
  try clear q17 q17
  try clear hx17
  try clear qi17
  try clear c22
  try clear c25
  try clear c25b0
  try clear c25b1
  try clear hcz12_0 hcz12_1 hcz12_2
  try clear hcz16_0 hcz16_1 hcz16_2
  try clear hcz23_0 hcz23_1 hcz23_2
  try clear hfz12_0 hfz12_1 hfz12_2
  try clear hfz16_0 hfz16_1 hfz16_2
  try clear hfz23_0 hfz23_1 hfz23_2
  obtain ⟨kq,x44_18,rfl,HA,HJ18,BK485,BK487,HB⟩:=hcut
  cases kq with
  | zero => exact absurd HA.out (by simp [impl_ReadIns.j0])
  | succ kj18 =>
   have H:=HA.out
   clear HA
   simp only [impl_ReadIns.j0] at H
   by_cases c26:x44_18 = true
   ·subst c26
    replace H:(some (0,false,0,0)) = some (r1,r2,r3,r4):=by rw [if_pos rfl] at H;exact H
    simp only [Option.some.injEq,Prod.mk.injEq] at H
    obtain ⟨rfl,rfl,rfl,rfl⟩:=H
    have hnb27:=NB485_487.out
    have hnc27:=NB487_485.out
    have hcz28_0:wc.cell? ⟨gb485,0,none⟩ = some (.int .i64 0):=bz_ BK485 0
    have hcz28_1:wc.cell? ⟨gb485,1,none⟩ = some (.bool false):=bz_ BK485 1
    have hcz28_2:wc.cell? ⟨gb485,2,none⟩ = some (.int .i64 0):=bz_ BK485 2
    have hfz28_0:=blk_frozen BK485.out 0
    have hfz28_1:=blk_frozen BK485.out 1
    have hfz28_2:=blk_frozen BK485.out 2
    go_wp2
    refine bodyPost_ret (results_ct rfl _ _ gb485 30 #[.int .i64 0,.bool false,.int .i64 0] (0,0) _ rfl q3_ Tryz.underlying30 rfl (by kernel_rfl)) rfl ?_
    exact ⟨q53_,q24_⟩
   replace c26:=Bool.eq_false_iff.mpr c26
   subst c26
   replace H:(impl_ReadIns.l0 kj18 (a0.extract (a1:Int).toNat a0.size) t488 (wrap64 (t488 - 1)) (wrap64 (bt (a0.extract (a1:Int).toNat a0.size) 0)) false 0) = some (r1,r2,r3,r4):=by rw [if_neg (show ¬ (false = true) by decide)] at H;exact H
   have H':=Aside0.mk H
   clear H
   go_wp2
   go_loopg [8] kj18 (fun kq v8 w' => ∃ (x8_2:Int) (x488002_2:Int),v8 = .int .i64 x8_2 ∧ Aside0 (impl_ReadIns.l0 kq (a0.extract (a1:Int).toNat a0.size) t488 x8_2 (wrap64 (bt (a0.extract (a1:Int).toNat a0.size) 0)) false x488002_2 = some (r1,r2,r3,r4)) ∧ Aside0 (kq ≤ kj18) ∧ Aside0 (w'.heap[gb485]? = some (.cells #[.int .i64 0,.bool false,.int .i64 0] 30 (0,0))) ∧ Aside0 (w'.heap[gb487]? = some (.cells #[.int .i64 (wrap64 (bt (a0.extract (a1:Int).toNat a0.size) 0)),.bool false,.int .i64 x488002_2] 30 (0,0))) ∧ Aside0 (Below w.heap.size w w'))
   case atStart => exact ⟨(wrap64 (t488 - 1)),(0),q69_,H',⟨Nat.le_refl _⟩,⟨q62_⟩,⟨q63_⟩,⟨q24_⟩⟩
   clear H'
   try clear c1
   try clear p1 p1
   try clear q1 q1
   try clear hx1
   try clear qi1
   try clear c2
   try clear p2 p2
   try clear c4
   try clear c5
   try clear c5b0
   try clear c5b1
   try clear c6
   try clear c6b0
   try clear c6b1
   try clear p6 p6
   try clear c7
   try clear c7b0
   try clear c7b1
   try clear p8 p8
   try clear q8 q8
   try clear hx8
   try clear qi8
   try clear c9
   try clear c9b0
   try clear c9b1
   try clear c10
   try clear c10b0
   try clear c10b1
   try clear c13
   try clear c13b0
   try clear c13b1
   try clear p14 p14
   try clear q14 q14
   try clear hx14
   try clear qi14
   try clear p17 p17
   try clear q17 q17
   try clear hx17
   try clear qi17
   try clear c22
   try clear c25
   try clear c25b0
   try clear c25b1
   try clear c26
   try clear c27
   try clear hcz12_0 hcz12_1 hcz12_2
   try clear hcz16_0 hcz16_1 hcz16_2
   try clear hcz23_0 hcz23_1 hcz23_2
   try clear hcz28_0 hcz28_1 hcz28_2
   try clear hfz12_0 hfz12_1 hfz12_2
   try clear hfz16_0 hfz16_1 hfz16_2
   try clear hfz23_0 hfz23_1 hfz23_2
   try clear hfz28_0 hfz28_1 hfz28_2
   obtain ⟨x8_2,x488002_2,rfl,HA,HK2,BK485,BK487,HB⟩:=hrel
   cases gk with
   | zero => exact absurd HA.out (by simp [impl_ReadIns.l0])
   | succ k2 =>
    have H:=HA.out
    clear HA
    simp only [impl_ReadIns.l0] at H
    by_cases c29:x8_2 > 0
    ·rw [if_pos c29] at H
     have c29b0:decide (0 < x8_2) = true:=decide_eq_true c29
     clear c29
     by_cases c30:0 ≤ x8_2
     rotate_left
     ·rw [if_neg c30] at H
      exact absurd H (by simp)
     rw [if_pos c30] at H
     have c30b0:decide (0 ≤ x8_2) = true:=decide_eq_true c30
     clear c30
     by_cases c31:x8_2 < ((a0.extract (a1:Int).toNat a0.size).size:Int)
     rotate_left
     ·rw [if_neg c31] at H
      exact absurd H (by simp)
     rw [if_pos c31] at H
     have c31b0:decide (x8_2 < ((a0.extract (a1:Int).toNat a0.size).size:Int)) = true:=decide_eq_true c31
     (try (have c31b0e:=c31b0;simp only [ByteArray.size_append,ByteArray.size_extract,Nat.min_self,Nat.sub_zero] at c31b0e))
     (try (first | (have c31b0p:=eq_true (of_decide_eq_true c31b0e)) | (have c31b0p:=eq_false (of_decide_eq_false c31b0e))))
     clear c31
     have H':=Aside0.mk H
     clear H
     try go_wp2
     have n0_:=Aside0.mk (blk_drew BK485.out)
     have n1_:=Aside0.mk (blk_drew BK487.out)
     have n2_:=Aside0.mk (below_drew1 HB.out)
     clear BK485
     clear BK487
     clear HB
     have BK485:=n0_
     have BK487:=n1_
     have HB:=n2_
     clear n0_ n1_ n2_
     have p32:0 ≤ (x8_2:Int):=of_decide_eq_true q86_
     have q32:x8_2 < ((a0.extract (a1:Int).toNat a0.size).size:Int):=of_decide_eq_true q86_
     have hx32:=bt_at (a0.extract (a1:Int).toNat a0.size) x8_2
     replace p32:=eq_true p32
     replace q32:=eq_true q32
     refine start_ (n:=10) (S:=fun w' => w'.cell? ⟨gb487,0,none⟩ = some (.int .i64 (wrap64 (bt (a0.extract (a1:Int).toNat a0.size) 0))) ∧ w'.cell? ⟨gb487,1,none⟩ = some (.bool false) ∧ w'.cell? ⟨gb487,2,none⟩ = some (.int .i64 x488002_2)) (ds:=[9]) #[false,false,false,false,false,false,false,false,false,false] (by kernel_rfl) rfl rfl ⟨(blk_cell BK487.out 0).trans rfl,(blk_cell BK487.out 1).trans rfl,(blk_cell BK487.out 2).trans rfl⟩ (fun hHeld => ?_);refine with_tabW impl_ReadIns.tab15 impl_ReadIns.bits15 (fun HT_ HW_ => ?_)
     generalize wr.drew = w33 at BK485 BK487 HB hHeld ⊢
     refine pure_ (i:=0) (N:=some 52) (v:=?_) (a':=?_) #[true,false,false,false,false,false,false,false,false,false] rfl rfl (any_of HT_.out (by kernel_rfl)) (fun _ _ _ h => h) (Or.inl ⟨by rfl,?_⟩) ?_ ?_
     rotate_left
     ·intro w'
      go_simp
      with_reducible rfl
     rotate_left
     ·simp only [Act.put,List.setIfInBounds_toArray,List.set_cons_zero,List.set_cons_succ,i64_w,i32_w]
      rfl
     refine pure_ (i:=3) (N:=some 55) (v:=?_) (a':=?_) #[true,false,false,true,false,false,false,false,false,false] rfl rfl (any_of HT_.out (by kernel_rfl)) (fun _ _ _ h => h) (Or.inl ⟨by rfl,?_⟩) ?_ ?_
     rotate_left
     ·intro w'
      go_simp
      with_reducible rfl
     rotate_left
     ·simp only [Act.put,List.setIfInBounds_toArray,List.set_cons_zero,List.set_cons_succ,i64_w,i32_w]
      rfl
     refine pure_ (i:=4) (N:=some 56) (v:=?_) (a':=?_) #[true,false,false,true,true,false,false,false,false,false] rfl rfl (any_of HT_.out (by kernel_rfl)) (fun _ _ _ h => h) (Or.inl ⟨by rfl,?_⟩) ?_ ?_
     rotate_left
     ·intro w'
      go_simp
      with_reducible rfl
     rotate_left
     ·simp only [Act.put,List.setIfInBounds_toArray,List.set_cons_zero,List.set_cons_succ,i64_w,i32_w]
      rfl
     refine take_ (i:=1) (N:=some 53) (v:=?_) (a':=?_) #[true,true,false,true,true,false,false,false,false,false] rfl rfl (take_ofW HT_.out HW_.out (by kernel_rfl)) (fun _ _ _ h => h) (Or.inl ⟨by rfl,?_⟩) hHeld ?_ ?_
     rotate_left
     ·rintro w' ⟨s0,s1,s2⟩
      go_simp
      with_reducible rfl
     rotate_left
     ·simp only [Act.put,List.setIfInBounds_toArray,List.set_cons_zero,List.set_cons_succ,i64_w,i32_w]
      rfl
     refine pure_ (i:=2) (N:=some 54) (v:=?_) (a':=?_) #[true,true,true,true,true,false,false,false,false,false] rfl rfl (any_of HT_.out (by kernel_rfl)) (fun _ _ _ h => h) (Or.inl ⟨by rfl,?_⟩) ?_ ?_
     rotate_left
     ·intro w'
      go_simp
      with_reducible rfl
     rotate_left
     ·simp only [Act.put,List.setIfInBounds_toArray,List.set_cons_zero,List.set_cons_succ,i64_w,i32_w]
      rfl
     refine take_ (i:=5) (N:=some 57) (v:=?_) (a':=?_) #[true,true,true,true,true,true,false,false,false,false] rfl rfl (take_ofW HT_.out HW_.out (by kernel_rfl)) (fun _ _ _ h => h) (Or.inl ⟨by rfl,?_⟩) hHeld ?_ ?_
     rotate_left
     ·rintro w' ⟨s0,s1,s2⟩
      go_simp
      with_reducible rfl
     rotate_left
     ·simp only [Act.put,List.setIfInBounds_toArray,List.set_cons_zero,List.set_cons_succ,i64_w,i32_w]
      rfl
     refine pure_ (i:=6) (N:=some 58) (v:=?_) (a':=?_) #[true,true,true,true,true,true,true,false,false,false] rfl rfl (any_of HT_.out (by kernel_rfl)) (fun _ _ _ h => h) (Or.inl ⟨by rfl,?_⟩) ?_ ?_
     rotate_left
     ·intro w'
      go_simp
      with_reducible rfl
     rotate_left
     ·simp only [Act.put,List.setIfInBounds_toArray,List.set_cons_zero,List.set_cons_succ,i64_w,i32_w]
      rfl
     refine pure_ (i:=7) (N:=some 59) (v:=?_) (a':=?_) #[true,true,true,true,true,true,true,true,false,false] rfl rfl (any_of HT_.out (by kernel_rfl)) (fun _ _ _ h => h) (Or.inl ⟨by rfl,?_⟩) ?_ ?_
     rotate_left
     ·intro w'
      go_simp
      with_reducible rfl
     rotate_left
     ·simp only [Act.put,List.setIfInBounds_toArray,List.set_cons_zero,List.set_cons_succ,i64_w,i32_w]
      rfl
     refine pure_ (i:=8) (N:=some 60) (v:=?_) (a':=?_) #[true,true,true,true,true,true,true,true,true,false] rfl rfl (any_of HT_.out (by kernel_rfl)) (fun _ _ _ h => h) (Or.inl ⟨by rfl,?_⟩) ?_ ?_
     rotate_left
     ·intro w'
      go_simp
      with_reducible rfl
     rotate_left
     ·simp only [Act.put,List.setIfInBounds_toArray,List.set_cons_zero,List.set_cons_succ,i64_w,i32_w]
      rfl
     refine last_ (i:=9) (N:=none) #[true,true,true,true,true,true,true,true,true,true] rfl rfl (one_of HT_.out (by kernel_rfl)) (by decide) (fun K hK => ?_)
     have hs34:w33.cell? ⟨gb487,2,none⟩ = some (.int .i64 x488002_2):=bz_ BK487 2
     have hfs34:=blk_frozen BK487.out 2
     have hns34_0:=NB485_487.out
     have hms34_0:=NB487_485.out
     refine skip_ (w1:=?_) (by rfl) rfl ?_ ?_
     rotate_left
     ·go_simp
      rfl
     refine hK.out _ _ ?_
     clear hK K
     refine done_ (done_of HT_.out (by kernel_rfl)) ?_
     try go_wp2
     go_roundg k2
     case measure => have:=HJ18.out;have:=HK2.out;omega
     case rel => exact ⟨(wrap64 (x8_2 - 1)),(Go.bits .or .i64 (wrap64 (x488002_2 * 256)) (wrap64 (bt (a0.extract (a1:Int).toNat a0.size) x8_2))),q69_,H',⟨by have:=HJ18.out;have:=HK2.out;omega⟩,⟨by (with_reducible repeat (first | refine blk_drewN ?_ _ | refine blk_drew ?_ | refine blk_alloc ?_ _));refine blk_far ?_ NB485_487.out _;(with_reducible repeat (first | refine blk_drewN ?_ _ | refine blk_drew ?_ | refine blk_alloc ?_ _));exact BK485.out⟩,⟨by (with_reducible repeat (first | refine blk_drewN ?_ _ | refine blk_drew ?_ | refine blk_alloc ?_ _));refine blk_put (cs:=#[.int .i64 (wrap64 (bt (a0.extract (a1:Int).toNat a0.size) 0)),.bool false,.int .i64 x488002_2]) ?_ 2 _ rfl;(with_reducible repeat (first | refine blk_drewN ?_ _ | refine blk_drew ?_ | refine blk_alloc ?_ _));exact BK487.out⟩,⟨q24_⟩⟩
    rw [if_neg c29] at H
    have c29b0:decide (0 < x8_2) = false:=decide_eq_false c29
    clear c29
    simp only [Option.some.injEq,Prod.mk.injEq] at H
    obtain ⟨rfl,rfl,rfl,rfl⟩:=H
    have hnb35:=NB487_485.out
    have hnc35:=NB485_487.out
    have hcz36_0:wr.cell? ⟨gb487,0,none⟩ = some (.int .i64 (wrap64 (bt (a0.extract (a1:Int).toNat a0.size) 0))):=bz_ BK487 0
    have hcz36_1:wr.cell? ⟨gb487,1,none⟩ = some (.bool false):=bz_ BK487 1
    have hcz36_2:wr.cell? ⟨gb487,2,none⟩ = some (.int .i64 x488002_2):=bz_ BK487 2
    have hfz36_0:=blk_frozen BK487.out 0
    have hfz36_1:=blk_frozen BK487.out 1
    have hfz36_2:=blk_frozen BK487.out 2
    have hcz37_0:wr.cell? ⟨gb485,0,none⟩ = some (.int .i64 0):=bz_ BK485 0
    have hcz37_1:wr.cell? ⟨gb485,1,none⟩ = some (.bool false):=bz_ BK485 1
    have hcz37_2:wr.cell? ⟨gb485,2,none⟩ = some (.int .i64 0):=bz_ BK485 2
    have hfz37_0:=blk_frozen BK485.out 0
    have hfz37_1:=blk_frozen BK485.out 1
    have hfz37_2:=blk_frozen BK485.out 2
    go_wp2
    refine bodyPost_ret (results_ct rfl _ _ gb485 30 #[.int .i64 (wrap64 (bt (a0.extract (a1:Int).toNat a0.size) 0)),.bool false,.int .i64 x488002_2] (0,0) _ rfl (by (with_reducible repeat (first | refine blk_drewN ?_ _ | refine blk_drew ?_ | refine blk_alloc ?_ _));refine blk_put (cs:=#[.int .i64 (wrap64 (bt (a0.extract (a1:Int).toNat a0.size) 0)),.bool false,.int .i64 0]) ?_ 2 _ rfl;(with_reducible repeat (first | refine blk_drewN ?_ _ | refine blk_drew ?_ | refine blk_alloc ?_ _));refine blk_put (cs:=#[.int .i64 (wrap64 (bt (a0.extract (a1:Int).toNat a0.size) 0)),.bool false,.int .i64 0]) ?_ 1 _ rfl;(with_reducible repeat (first | refine blk_drewN ?_ _ | refine blk_drew ?_ | refine blk_alloc ?_ _));refine blk_put (cs:=#[.int .i64 0,.bool false,.int .i64 0]) ?_ 0 _ rfl;(with_reducible repeat (first | refine blk_drewN ?_ _ | refine blk_drew ?_ | refine blk_alloc ?_ _));exact BK485.out) Tryz.underlying30 rfl (by kernel_rfl)) rfl ?_
    exact ⟨q53_,q24_⟩
 replace c4:=Bool.eq_false_iff.mpr c4
 subst c4
 replace H:(some (0,false,0,0)) = some (r1,r2,r3,r4):=by rw [if_neg (show ¬ (false = true) by decide)] at H;exact H
 simp only [Option.some.injEq,Prod.mk.injEq] at H
 obtain ⟨rfl,rfl,rfl,rfl⟩:=H
 go_enter Tryz.func22,Tryz.ntmps22
 go_wp2_with (first | ((with_reducible refine gate_dst (N:=4) rfl ?_);(try (refine gate_guard (by rfl) ?_;dsimp only));refine box_event ?hg (N:=4) ?hd (cs:=#[.int .i64 0,.bool false,.int .i64 0]) (t:=30) ?hr ?_;(case hd => rfl);(case hg => rfl);(case hr => exact q114_);intro gb485 hg w38 hbox hb;have n0_:=Aside0.mk (below_step q50_ hb);have n1_:=Aside0.mk (hbox);have n2_:=Aside0.mk ((q28_:w.heap.size ≤ gb485));have n3_:=Aside0.mk ((q28_:w.heap.size ≤ gb485));clear HB;have HB:=n0_;have BK485:=n1_;have GW485:=n2_;have GE485:=n3_;clear n0_ n1_ n2_ n3_;clear hb hbox hg) | ((with_reducible refine gate_callee (f:=61) rfl ?_);refine goesL_ (some 13) rfl rfl Tryz.func61 (by kernel_rfl) rfl #[.int .i64 a1,.int .i64 0,.int .i64 (wrap64 ((a0.size:Int) - 1))] rfl q6_ ?_;(with_reducible refine (impl_within.calls a1 0 (wrap64 ((a0.size:Int) - 1)) false _ A3.out).mono ?_);rintro e w' ⟨rfl,⟨nd,rfl⟩⟩;refine ⟨_,rfl,?_⟩;(try (rw [drewN_self w38];generalize hq_:World.drewN w38 _ = w38;have n0_:Aside0 (w38.heap[gb485]? = some (.cells #[.int .i64 0,.bool false,.int .i64 0] 30 (0,0))):=⟨q45_⟩;have n1_:Aside0 (Below w.heap.size w w38):=⟨q26_⟩;clear BK485 HB hq_;have BK485:=n0_;have HB:=n1_;clear n0_ n1_));have hcz39_0:w38.cell? ⟨gb485,0,none⟩ = some (.int .i64 0):=(blk_cell BK485.out 0).trans rfl;have hcz39_1:w38.cell? ⟨gb485,1,none⟩ = some (.bool false):=(blk_cell BK485.out 1).trans rfl;have hcz39_2:w38.cell? ⟨gb485,2,none⟩ = some (.int .i64 0):=(blk_cell BK485.out 2).trans rfl;have hfz39_0:=blk_frozen BK485.out 0;have hfz39_1:=blk_frozen BK485.out 1;have hfz39_2:=blk_frozen BK485.out 2))
 refine bodyPost_ret (results_ct rfl _ _ gb485 30 #[.int .i64 0,.bool false,.int .i64 0] (0,0) _ rfl q3_ Tryz.underlying30 rfl (by kernel_rfl)) rfl ?_
 exact ⟨q53_,q36_⟩
def impl_inBank.f (k:Nat) (a0:ByteArray) (a1:Int):Option (Int × Bool × Int × Int):=if 0 ≤ (wrap64 ((wrap64 ((wrap64 (Int.tdiv a1 256)) + 1)) * 256)) then (if (wrap64 ((wrap64 ((wrap64 (Int.tdiv a1 256)) + 1)) * 256)) ≤ (a0.size:Int) then ((impl_ReadIns.f k (a0.extract 0 ((wrap64 ((wrap64 ((wrap64 (Int.tdiv a1 256)) + 1)) * 256)):Int).toNat) a1).bind fun bt490 => (some (bt490.1,bt490.2.1,bt490.2.2.1,bt490.2.2.2))) else (none)) else (none)
theorem impl_inBank.mono:∀ a0 a1 k,LeO (impl_inBank.f k a0 a1) (impl_inBank.f (k + 1) a0 a1):=by
 intro a0 a1 k
 unfold impl_inBank.f
 repeat' first
   | (with_reducible first | exact impl_ReadIns.mono _ _ _ | exact LeO.refl _ | exact LeO.none _ | refine LeO.ite ?_ ?_ | refine LeO.bind ?_ (fun _ => ?_))
   | exact impl_ReadIns.mono _ _ _
   | exact LeO.none _
   | refine LeO.ite ?_ ?_
   | refine LeO.bind ?_ (fun _ => ?_)
theorem impl_inBank.calls (k:Nat) (a0:ByteArray) (a1:Int) (r1:Int) (r2:Bool) (r3:Int) (r4:Int) (w:World) (h:impl_inBank.f k a0 a1 = some (r1,r2,r3,r4)) (hG:Go.Proofs.YtodlnnoekccmmaaGreatDoor.LibW.GL w:=by first | exact hG | exact hG.below q4_ | exact hG.drewN _) :
  Calls Tryz.prog 80 #[.string a0,.int .i64 a1] w fun e w' => e = .returned (.tuple #[.agg #[.int .i64 r1,.bool r2,.int .i64 r3],.int .i64 r4]) ∧ Below w.heap.size w w':=by
 have hu30:=Tryz.underlying30
 have HB:=Aside0.mk (Below.refl w.heap.size w)
 have H:(if 0 ≤ (wrap64 ((wrap64 ((wrap64 (Int.tdiv a1 256)) + 1)) * 256)) then (if (wrap64 ((wrap64 ((wrap64 (Int.tdiv a1 256)) + 1)) * 256)) ≤ (a0.size:Int) then ((impl_ReadIns.f k (a0.extract 0 ((wrap64 ((wrap64 ((wrap64 (Int.tdiv a1 256)) + 1)) * 256)):Int).toNat) a1).bind fun bt490 => (some (bt490.1,bt490.2.1,bt490.2.2.1,bt490.2.2.2))) else (none)) else (none)) = some (r1,r2,r3,r4):=h
 clear h
 obtain ⟨ji3,hji3⟩:∃ j_:Int,(wrap64 ((wrap64 ((wrap64 (Int.tdiv a1 256)) + 1)) * 256)) = j_:=⟨_,rfl⟩
 replace H:(if 0 ≤ (ji3) then (if (ji3) ≤ (a0.size:Int) then ((impl_ReadIns.f k (a0.extract 0 ((ji3):Int).toNat) a1).bind fun bt490 => (some (bt490.1,bt490.2.1,bt490.2.2.1,bt490.2.2.2))) else (none)) else (none)) = some (r1,r2,r3,r4):=by first | (rw [hji3] at H;exact H) | (simp only [hji3] at H ⊢;exact H)
 have hji3w:(IntKind.i64.wrap ((wrap64 ((wrap64 (Int.tdiv a1 256)) + 1)) * 256)) = ji3:=(i64_w _).trans hji3
 by_cases c4:0 ≤ (ji3)
 rotate_left
 ·rw [if_neg c4] at H
  exact absurd H (by simp)
 rw [if_pos c4] at H
 have c4b0:=eq_true c4
 have c4b1:decide (0 ≤ (ji3)) = true:=decide_eq_true c4
 clear c4
 by_cases c5:(ji3) ≤ (a0.size:Int)
 rotate_left
 ·rw [if_neg c5] at H
  exact absurd H (by simp)
 rw [if_pos c5] at H
 have c5b0:=eq_true c5
 have c5b1:decide ((ji3) ≤ (a0.size:Int)) = true:=decide_eq_true c5
 clear c5
 replace H:=Option.bind_eq_some_iff.mp H
 obtain ⟨⟨t490,t491,t492,t493⟩,A60,H⟩:=H
 replace H:(some (t490,t491,t492,t493)) = some (r1,r2,r3,r4):=H
 have A6:=Aside0.mk A60
 clear A60
 simp only [Option.some.injEq,Prod.mk.injEq] at H
 obtain ⟨rfl,rfl,rfl,rfl⟩:=H
 go_enter Tryz.func80,Tryz.ntmps80
 go_wp2_with (first | ((with_reducible refine gate_dst (N:=4) rfl ?_);refine box_event ?hg (N:=4) ?hd (cs:=#[.int .i64 0,.bool false,.int .i64 0]) (t:=30) ?hr ?_;(case hd => rfl);(case hg => rfl);(case hr => exact q114_);intro gb489 hg w7 hbox hb;have n0_:=Aside0.mk (below_step q50_ hb);have n1_:=Aside0.mk (hbox);have n2_:=Aside0.mk ((q28_:w.heap.size ≤ gb489));have n3_:=Aside0.mk ((q28_:w.heap.size ≤ gb489));clear HB;have HB:=n0_;have BK489:=n1_;have GW489:=n2_;have GE489:=n3_;clear n0_ n1_ n2_ n3_;clear hb hbox hg) | ((with_reducible refine gate_callee (f:=22) rfl ?_);refine goesL_ (some 13) rfl rfl Tryz.func22 (by kernel_rfl) rfl #[.string (a0.extract 0 ((ji3):Int).toNat),.int .i64 a1] rfl (by (try simp only [List.map_toArray,List.map_cons,List.map_nil]);first | done | (simp only [hji3];rfl) | rfl | (simp only [List.length_drop,List.length_take];rfl)) ?_;(with_reducible refine (impl_ReadIns.calls k (a0.extract 0 ((ji3):Int).toNat) a1 t490 t491 t492 t493 _ A6.out).mono ?_);rintro e w8 ⟨rfl,hb⟩;refine ⟨_,rfl,?_⟩;have n0_:=Aside0.mk (blk_below (g:=gb489) (o:=.cells #[.int .i64 0,.bool false,.int .i64 0] 30 (0,0)) (by (with_reducible repeat (first | refine blk_drewN ?_ _ | refine blk_drew ?_ | refine blk_alloc ?_ _));exact BK489.out) hb);have n1_:=Aside0.mk (below_step q37_ hb);clear BK489;clear HB;have BK489:=n0_;have HB:=n1_;clear n0_ n1_;(try clear hb);have hcz9_0:w8.cell? ⟨gb489,0,none⟩ = some (.int .i64 0):=(blk_cell BK489.out 0).trans rfl;have hcz9_1:w8.cell? ⟨gb489,1,none⟩ = some (.bool false):=(blk_cell BK489.out 1).trans rfl;have hcz9_2:w8.cell? ⟨gb489,2,none⟩ = some (.int .i64 0):=(blk_cell BK489.out 2).trans rfl;have hfz9_0:=blk_frozen BK489.out 0;have hfz9_1:=blk_frozen BK489.out 1;have hfz9_2:=blk_frozen BK489.out 2))
 refine bodyPost_ret (results_ct rfl _ _ gb489 30 #[.int .i64 t490,.bool t491,.int .i64 t492] (0,0) _ rfl (by (with_reducible repeat (first | refine blk_drewN ?_ _ | refine blk_drew ?_ | refine blk_alloc ?_ _));refine blk_put (cs:=#[.int .i64 t490,.bool t491,.int .i64 0]) ?_ 2 _ rfl;(with_reducible repeat (first | refine blk_drewN ?_ _ | refine blk_drew ?_ | refine blk_alloc ?_ _));refine blk_put (cs:=#[.int .i64 t490,.bool false,.int .i64 0]) ?_ 1 _ rfl;(with_reducible repeat (first | refine blk_drewN ?_ _ | refine blk_drew ?_ | refine blk_alloc ?_ _));refine blk_put (cs:=#[.int .i64 0,.bool false,.int .i64 0]) ?_ 0 _ rfl;(with_reducible repeat (first | refine blk_drewN ?_ _ | refine blk_drew ?_ | refine blk_alloc ?_ _));exact BK489.out) Tryz.underlying30 rfl (by kernel_rfl)) rfl ?_
 exact ⟨by first | rfl | (simp [errW_none,errW_some] <;> rfl) | (simp only [← hji3];first | rfl | (simp [errW_none,errW_some] <;> rfl)) | (simp [*,errW_none,errW_some] <;> rfl) | (exfalso;simp_all;done),q37_⟩
def impl_addrOf.f (a0:Int):Option (Int):=if a0 < 256 then (some a0) else (some (wrap64 ((Int.tmod a0 256) + 256)))
theorem impl_addrOf.calls (a0:Int) (r:Int) (w:World) (h:impl_addrOf.f a0 = some r) :
  Calls Tryz.prog 124 #[.int .i64 a0] w fun e w' => e = .returned (.int .i64 r) ∧ Drawn0 w w':=by
 have H:(if a0 < 256 then (some a0) else (some (wrap64 ((Int.tmod a0 256) + 256)))) = some r:=h
 clear h
 by_cases c2:a0 < 256
 ·rw [if_pos c2] at H
  have c2b0:decide (a0 < 256) = true:=decide_eq_true c2
  clear c2
  obtain rfl:=Option.some.inj H
  go_enter Tryz.func124,Tryz.ntmps124
  go_wp2
  go_ret
  exact ⟨q69_,q85_⟩
 rw [if_neg c2] at H
 have c2b0:decide (a0 < 256) = false:=decide_eq_false c2
 clear c2
 obtain rfl:=Option.some.inj H
 go_enter Tryz.func124,Tryz.ntmps124
 go_wp2
 go_ret
 exact ⟨q69_,q85_⟩
def impl_jumps.j0:Nat → ByteArray → Bool → Int → Bool → Int → Option (Int × Bool)
 | 0,_,_,_,_,_ => none
 | k + 1,x7,x31,x495000,x495001,x495002 => if x31 = true then (some (x495002,true)) else (if x7.toList = ([114,115,116]:List UInt8) then (some (Go.bits .and .i64 x495000 56,true)) else (some (0,false)))
def impl_jumps.f (k:Nat) (a0_0:Int) (a0_1:Bool) (a0_2:Int) (a1:Int):Option (Int × Bool):=(impl_TemplateOf.f k a0_0 a0_1).bind fun t495 => ((strings_Cut.f t495 (⟨#[32]⟩:ByteArray)).bind fun bt496 => (if bt496.1.toList = ([106,114]:List UInt8) then ((impl_addrOf.f a1).bind fun t499 => ((impl_SignedOf.f a0_2).bind fun t500 => (some (wrap64 ((wrap64 (t499 + 2)) + t500),true)))) else (if bt496.1.toList = ([106,112]:List UInt8) then (impl_jumps.j0 k bt496.1 (bt496.2.1.toList != ([104,108]:List UInt8)) a0_0 a0_1 a0_2) else (if bt496.1.toList = ([99,97,108,108]:List UInt8) then (impl_jumps.j0 k bt496.1 (bt496.2.1.toList != ([104,108]:List UInt8)) a0_0 a0_1 a0_2) else (impl_jumps.j0 k bt496.1 false a0_0 a0_1 a0_2)))))
theorem impl_jumps.mono_l:∀ k,(∀ y0 y1 y2 y3 y4,LeO (impl_jumps.j0 k y0 y1 y2 y3 y4) (impl_jumps.j0 (k + 1) y0 y1 y2 y3 y4))
 | 0 => fun _ _ _ _ _ r h => by simp [impl_jumps.j0] at h
 | k + 1 => by
  have ih0:=impl_jumps.mono_l k
  intro y0 y1 y2 y3 y4
  unfold impl_jumps.j0
  repeat' first
  | (with_reducible first | exact ih0 _ _ _ _ _ | exact impl_TemplateOf.mono _ _ _ | exact LeO.refl _ | exact LeO.none _ | refine LeO.ite ?_ ?_ | refine LeO.bind ?_ (fun _ => ?_))
  | exact ih0 _ _ _ _ _
  | exact impl_TemplateOf.mono _ _ _
  | exact LeO.none _
  | refine LeO.ite ?_ ?_
  | refine LeO.bind ?_ (fun _ => ?_)
theorem impl_jumps.mono:∀ a0 a1 a2 a3 k,LeO (impl_jumps.f k a0 a1 a2 a3) (impl_jumps.f (k + 1) a0 a1 a2 a3):=by
 intro a0 a1 a2 a3 k
 have ih0:=impl_jumps.mono_l k
 unfold impl_jumps.f
 repeat' first
   | (with_reducible first | exact ih0 _ _ _ _ _ | exact impl_TemplateOf.mono _ _ _ | exact LeO.refl _ | exact LeO.none _ | refine LeO.ite ?_ ?_ | refine LeO.bind ?_ (fun _ => ?_))
   | exact ih0 _ _ _ _ _
   | exact impl_TemplateOf.mono _ _ _
   | exact LeO.none _
   | refine LeO.ite ?_ ?_
   | refine LeO.bind ?_ (fun _ => ?_)
theorem impl_jumps.calls (k:Nat) (a0_0:Int) (a0_1:Bool) (a0_2:Int) (a1:Int) (r1:Int) (r2:Bool) (w:World) (h:impl_jumps.f k a0_0 a0_1 a0_2 a1 = some (r1,r2)) (hG:Go.Proofs.YtodlnnoekccmmaaGreatDoor.LibW.GL w:=by first | exact hG | exact hG.below q4_ | exact hG.drewN _) :
  Calls Tryz.prog 83 #[.agg #[.int .i64 a0_0,.bool a0_1,.int .i64 a0_2],.int .i64 a1] w fun e w' => e = .returned (.tuple #[.int .i64 r1,.bool r2]) ∧ Below w.heap.size w w':=by
 have hu30:=Tryz.underlying30
 have HB:=Aside0.mk (Below.refl w.heap.size w)
 have H:((impl_TemplateOf.f k a0_0 a0_1).bind fun t495 => ((strings_Cut.f t495 (⟨#[32]⟩:ByteArray)).bind fun bt496 => (if bt496.1.toList = ([106,114]:List UInt8) then ((impl_addrOf.f a1).bind fun t499 => ((impl_SignedOf.f a0_2).bind fun t500 => (some (wrap64 ((wrap64 (t499 + 2)) + t500),true)))) else (if bt496.1.toList = ([106,112]:List UInt8) then (impl_jumps.j0 k bt496.1 (bt496.2.1.toList != ([104,108]:List UInt8)) a0_0 a0_1 a0_2) else (if bt496.1.toList = ([99,97,108,108]:List UInt8) then (impl_jumps.j0 k bt496.1 (bt496.2.1.toList != ([104,108]:List UInt8)) a0_0 a0_1 a0_2) else (impl_jumps.j0 k bt496.1 false a0_0 a0_1 a0_2)))))) = some (r1,r2):=h
 clear h
 replace H:=Option.bind_eq_some_iff.mp H
 obtain ⟨t495,A30,H⟩:=H
 have A3:=Aside0.mk A30
 clear A30
 replace H:=Option.bind_eq_some_iff.mp H
 obtain ⟨⟨t496,t497,t498⟩,A40,H⟩:=H
 replace H:(if t496.toList = ([106,114]:List UInt8) then ((impl_addrOf.f a1).bind fun t499 => ((impl_SignedOf.f a0_2).bind fun t500 => (some (wrap64 ((wrap64 (t499 + 2)) + t500),true)))) else (if t496.toList = ([106,112]:List UInt8) then (impl_jumps.j0 k t496 (t497.toList != ([104,108]:List UInt8)) a0_0 a0_1 a0_2) else (if t496.toList = ([99,97,108,108]:List UInt8) then (impl_jumps.j0 k t496 (t497.toList != ([104,108]:List UInt8)) a0_0 a0_1 a0_2) else (impl_jumps.j0 k t496 false a0_0 a0_1 a0_2)))) = some (r1,r2):=H
 have A4:=Aside0.mk A40
 clear A40
 by_cases c5:t496.toList = ([106,114]:List UInt8)
 ·rw [if_pos c5] at H
  have c5b0:(t496.toList == ([106,114]:List UInt8)) = true:=beq_iff_eq.mpr c5
  have c5b1:(t496.toList != ([106,114]:List UInt8)) = false:=bne_eq_false_iff_eq.mpr c5
  clear c5
  replace H:=Option.bind_eq_some_iff.mp H
  obtain ⟨t499,A60,H⟩:=H
  have A6:=Aside0.mk A60
  clear A60
  replace H:=Option.bind_eq_some_iff.mp H
  obtain ⟨t500,A70,H⟩:=H
  have A7:=Aside0.mk A70
  clear A70
  simp only [Option.some.injEq,Prod.mk.injEq] at H
  obtain ⟨rfl,rfl⟩:=H
  go_enter Tryz.func83,Tryz.ntmps83
  go_wp2_with (first | ((with_reducible refine gate_dst (N:=2) rfl ?_);refine box_event ?hg (N:=2) ?hd (cs:=#[.int .i64 a0_0,.bool a0_1,.int .i64 a0_2]) (t:=30) ?hr ?_;(case hd => rfl);(case hg => rfl);(case hr => exact q114_);intro gb494 hg w8 hbox hb;have n0_:=Aside0.mk (below_step q50_ hb);have n1_:=Aside0.mk (hbox);have n2_:=Aside0.mk ((q28_:w.heap.size ≤ gb494));have n3_:=Aside0.mk ((q28_:w.heap.size ≤ gb494));clear HB;have HB:=n0_;have BK494:=n1_;have GW494:=n2_;have GE494:=n3_;clear n0_ n1_ n2_ n3_;clear hb hbox hg;have hcz9_0:w8.cell? ⟨gb494,0,none⟩ = some (.int .i64 a0_0):=(blk_cell BK494.out 0).trans rfl;have hcz9_1:w8.cell? ⟨gb494,1,none⟩ = some (.bool a0_1):=(blk_cell BK494.out 1).trans rfl;have hcz9_2:w8.cell? ⟨gb494,2,none⟩ = some (.int .i64 a0_2):=(blk_cell BK494.out 2).trans rfl;have hfz9_0:=blk_frozen BK494.out 0;have hfz9_1:=blk_frozen BK494.out 1;have hfz9_2:=blk_frozen BK494.out 2) | (go_at_call 46;(with_reducible refine (impl_TemplateOf.calls k a0_0 a0_1 t495 _ A3.out).mono ?_);rintro e w10 ⟨rfl,hb⟩;have n0_:=Aside0.mk (blk_below (g:=gb494) (o:=.cells #[.int .i64 a0_0,.bool a0_1,.int .i64 a0_2] 30 (0,0)) q64_ hb);have n1_:=Aside0.mk (below_step q38_ hb);clear BK494;clear HB;have BK494:=n0_;have HB:=n1_;clear n0_ n1_;(try clear hb)) | (go_at_call 114;(with_reducible refine (strings_Cut.calls t495 (⟨#[32]⟩:ByteArray) t496 t497 t498 _ A4.out).mono ?_);rintro e w' ⟨rfl,⟨nd,rfl⟩⟩;(try first | exact ⟨rfl,_,World.drewN_drewN _ _ _⟩ | exact ⟨rfl,_,Eq.trans (World.drewN_drewN _ _ _) (congrArg (World.drewN _) (Nat.add_assoc _ _ _))⟩)) | (go_at_call 124;(with_reducible refine (impl_addrOf.calls a1 t499 _ A6.out).mono ?_);rintro e w' ⟨rfl,⟨nd,rfl⟩⟩;(try first | exact ⟨rfl,_,World.drewN_drewN _ _ _⟩ | exact ⟨rfl,_,Eq.trans (World.drewN_drewN _ _ _) (congrArg (World.drewN _) (Nat.add_assoc _ _ _))⟩);have hcz11_0:w10.cell? ⟨gb494,0,none⟩ = some (.int .i64 a0_0):=(blk_cell BK494.out 0).trans rfl;have hcz11_1:w10.cell? ⟨gb494,1,none⟩ = some (.bool a0_1):=(blk_cell BK494.out 1).trans rfl;have hcz11_2:w10.cell? ⟨gb494,2,none⟩ = some (.int .i64 a0_2):=(blk_cell BK494.out 2).trans rfl;have hfz11_0:=blk_frozen BK494.out 0;have hfz11_1:=blk_frozen BK494.out 1;have hfz11_2:=blk_frozen BK494.out 2) | (go_at_call 113;(with_reducible refine (impl_SignedOf.calls a0_2 t500 _ A7.out).mono ?_);rintro e w' ⟨rfl,⟨nd,rfl⟩⟩;(try first | exact ⟨rfl,_,World.drewN_drewN _ _ _⟩ | exact ⟨rfl,_,Eq.trans (World.drewN_drewN _ _ _) (congrArg (World.drewN _) (Nat.add_assoc _ _ _))⟩)))
  repeat (go_quiet (first | ((with_reducible refine gate_dst (N:=2) rfl ?_);refine box_event ?hg (N:=2) ?hd (cs:=#[.int .i64 a0_0,.bool a0_1,.int .i64 a0_2]) (t:=30) ?hr ?_;(case hd => rfl);(case hg => rfl);(case hr => exact q114_);intro gb494 hg w8 hbox hb;have n0_:=Aside0.mk (below_step q50_ hb);have n1_:=Aside0.mk (hbox);have n2_:=Aside0.mk ((q28_:w.heap.size ≤ gb494));have n3_:=Aside0.mk ((q28_:w.heap.size ≤ gb494));clear HB;have HB:=n0_;have BK494:=n1_;have GW494:=n2_;have GE494:=n3_;clear n0_ n1_ n2_ n3_;clear hb hbox hg;have hcz9_0:w8.cell? ⟨gb494,0,none⟩ = some (.int .i64 a0_0):=(blk_cell BK494.out 0).trans rfl;have hcz9_1:w8.cell? ⟨gb494,1,none⟩ = some (.bool a0_1):=(blk_cell BK494.out 1).trans rfl;have hcz9_2:w8.cell? ⟨gb494,2,none⟩ = some (.int .i64 a0_2):=(blk_cell BK494.out 2).trans rfl;have hfz9_0:=blk_frozen BK494.out 0;have hfz9_1:=blk_frozen BK494.out 1;have hfz9_2:=blk_frozen BK494.out 2) | (go_at_call 46;(with_reducible refine (impl_TemplateOf.calls k a0_0 a0_1 t495 _ A3.out).mono ?_);rintro e w10 ⟨rfl,hb⟩;have n0_:=Aside0.mk (blk_below (g:=gb494) (o:=.cells #[.int .i64 a0_0,.bool a0_1,.int .i64 a0_2] 30 (0,0)) q64_ hb);have n1_:=Aside0.mk (below_step q38_ hb);clear BK494;clear HB;have BK494:=n0_;have HB:=n1_;clear n0_ n1_;(try clear hb)) | (go_at_call 114;(with_reducible refine (strings_Cut.calls t495 (⟨#[32]⟩:ByteArray) t496 t497 t498 _ A4.out).mono ?_);rintro e w' ⟨rfl,⟨nd,rfl⟩⟩;(try first | exact ⟨rfl,_,World.drewN_drewN _ _ _⟩ | exact ⟨rfl,_,Eq.trans (World.drewN_drewN _ _ _) (congrArg (World.drewN _) (Nat.add_assoc _ _ _))⟩)) | (go_at_call 124;(with_reducible refine (impl_addrOf.calls a1 t499 _ A6.out).mono ?_);rintro e w' ⟨rfl,⟨nd,rfl⟩⟩;(try first | exact ⟨rfl,_,World.drewN_drewN _ _ _⟩ | exact ⟨rfl,_,Eq.trans (World.drewN_drewN _ _ _) (congrArg (World.drewN _) (Nat.add_assoc _ _ _))⟩);have hcz11_0:w10.cell? ⟨gb494,0,none⟩ = some (.int .i64 a0_0):=(blk_cell BK494.out 0).trans rfl;have hcz11_1:w10.cell? ⟨gb494,1,none⟩ = some (.bool a0_1):=(blk_cell BK494.out 1).trans rfl;have hcz11_2:w10.cell? ⟨gb494,2,none⟩ = some (.int .i64 a0_2):=(blk_cell BK494.out 2).trans rfl;have hfz11_0:=blk_frozen BK494.out 0;have hfz11_1:=blk_frozen BK494.out 1;have hfz11_2:=blk_frozen BK494.out 2) | (go_at_call 113;(with_reducible refine (impl_SignedOf.calls a0_2 t500 _ A7.out).mono ?_);rintro e w' ⟨rfl,⟨nd,rfl⟩⟩;(try first | exact ⟨rfl,_,World.drewN_drewN _ _ _⟩ | exact ⟨rfl,_,Eq.trans (World.drewN_drewN _ _ _) (congrArg (World.drewN _) (Nat.add_assoc _ _ _))⟩)));try go_wp2_with (first | ((with_reducible refine gate_dst (N:=2) rfl ?_);refine box_event ?hg (N:=2) ?hd (cs:=#[.int .i64 a0_0,.bool a0_1,.int .i64 a0_2]) (t:=30) ?hr ?_;(case hd => rfl);(case hg => rfl);(case hr => exact q114_);intro gb494 hg w8 hbox hb;have n0_:=Aside0.mk (below_step q50_ hb);have n1_:=Aside0.mk (hbox);have n2_:=Aside0.mk ((q28_:w.heap.size ≤ gb494));have n3_:=Aside0.mk ((q28_:w.heap.size ≤ gb494));clear HB;have HB:=n0_;have BK494:=n1_;have GW494:=n2_;have GE494:=n3_;clear n0_ n1_ n2_ n3_;clear hb hbox hg;have hcz9_0:w8.cell? ⟨gb494,0,none⟩ = some (.int .i64 a0_0):=(blk_cell BK494.out 0).trans rfl;have hcz9_1:w8.cell? ⟨gb494,1,none⟩ = some (.bool a0_1):=(blk_cell BK494.out 1).trans rfl;have hcz9_2:w8.cell? ⟨gb494,2,none⟩ = some (.int .i64 a0_2):=(blk_cell BK494.out 2).trans rfl;have hfz9_0:=blk_frozen BK494.out 0;have hfz9_1:=blk_frozen BK494.out 1;have hfz9_2:=blk_frozen BK494.out 2) | (go_at_call 46;(with_reducible refine (impl_TemplateOf.calls k a0_0 a0_1 t495 _ A3.out).mono ?_);rintro e w10 ⟨rfl,hb⟩;have n0_:=Aside0.mk (blk_below (g:=gb494) (o:=.cells #[.int .i64 a0_0,.bool a0_1,.int .i64 a0_2] 30 (0,0)) q64_ hb);have n1_:=Aside0.mk (below_step q38_ hb);clear BK494;clear HB;have BK494:=n0_;have HB:=n1_;clear n0_ n1_;(try clear hb)) | (go_at_call 114;(with_reducible refine (strings_Cut.calls t495 (⟨#[32]⟩:ByteArray) t496 t497 t498 _ A4.out).mono ?_);rintro e w' ⟨rfl,⟨nd,rfl⟩⟩;(try first | exact ⟨rfl,_,World.drewN_drewN _ _ _⟩ | exact ⟨rfl,_,Eq.trans (World.drewN_drewN _ _ _) (congrArg (World.drewN _) (Nat.add_assoc _ _ _))⟩)) | (go_at_call 124;(with_reducible refine (impl_addrOf.calls a1 t499 _ A6.out).mono ?_);rintro e w' ⟨rfl,⟨nd,rfl⟩⟩;(try first | exact ⟨rfl,_,World.drewN_drewN _ _ _⟩ | exact ⟨rfl,_,Eq.trans (World.drewN_drewN _ _ _) (congrArg (World.drewN _) (Nat.add_assoc _ _ _))⟩);have hcz11_0:w10.cell? ⟨gb494,0,none⟩ = some (.int .i64 a0_0):=(blk_cell BK494.out 0).trans rfl;have hcz11_1:w10.cell? ⟨gb494,1,none⟩ = some (.bool a0_1):=(blk_cell BK494.out 1).trans rfl;have hcz11_2:w10.cell? ⟨gb494,2,none⟩ = some (.int .i64 a0_2):=(blk_cell BK494.out 2).trans rfl;have hfz11_0:=blk_frozen BK494.out 0;have hfz11_1:=blk_frozen BK494.out 1;have hfz11_2:=blk_frozen BK494.out 2) | (go_at_call 113;(with_reducible refine (impl_SignedOf.calls a0_2 t500 _ A7.out).mono ?_);rintro e w' ⟨rfl,⟨nd,rfl⟩⟩;(try first | exact ⟨rfl,_,World.drewN_drewN _ _ _⟩ | exact ⟨rfl,_,Eq.trans (World.drewN_drewN _ _ _) (congrArg (World.drewN _) (Nat.add_assoc _ _ _))⟩))))
  go_ret2
  exact ⟨q39_,q38_⟩
 rw [if_neg c5] at H
 have c5b0:(t496.toList == ([106,114]:List UInt8)) = false:=beq_eq_false_iff_ne.mpr c5
 have c5b1:(t496.toList != ([106,114]:List UInt8)) = true:=bne_iff_ne.mpr c5
 have HC12:=Aside0.mk H
 clear H
 go_enter Tryz.func83,Tryz.ntmps83
 go_upto_region 5 with (first | ((with_reducible refine gate_dst (N:=2) rfl ?_);refine box_event ?hg (N:=2) ?hd (cs:=#[.int .i64 a0_0,.bool a0_1,.int .i64 a0_2]) (t:=30) ?hr ?_;(case hd => rfl);(case hg => rfl);(case hr => exact q114_);intro gb494 hg w13 hbox hb;have n0_:=Aside0.mk (below_step q50_ hb);have n1_:=Aside0.mk (hbox);have n2_:=Aside0.mk ((q28_:w.heap.size ≤ gb494));have n3_:=Aside0.mk ((q28_:w.heap.size ≤ gb494));clear HB;have HB:=n0_;have BK494:=n1_;have GW494:=n2_;have GE494:=n3_;clear n0_ n1_ n2_ n3_;clear hb hbox hg;have hcz14_0:w13.cell? ⟨gb494,0,none⟩ = some (.int .i64 a0_0):=(blk_cell BK494.out 0).trans rfl;have hcz14_1:w13.cell? ⟨gb494,1,none⟩ = some (.bool a0_1):=(blk_cell BK494.out 1).trans rfl;have hcz14_2:w13.cell? ⟨gb494,2,none⟩ = some (.int .i64 a0_2):=(blk_cell BK494.out 2).trans rfl;have hfz14_0:=blk_frozen BK494.out 0;have hfz14_1:=blk_frozen BK494.out 1;have hfz14_2:=blk_frozen BK494.out 2) | (go_at_call 46;(with_reducible refine (impl_TemplateOf.calls k a0_0 a0_1 t495 _ A3.out).mono ?_);rintro e w15 ⟨rfl,hb⟩;have n0_:=Aside0.mk (blk_below (g:=gb494) (o:=.cells #[.int .i64 a0_0,.bool a0_1,.int .i64 a0_2] 30 (0,0)) q64_ hb);have n1_:=Aside0.mk (below_step q38_ hb);clear BK494;clear HB;have BK494:=n0_;have HB:=n1_;clear n0_ n1_;(try clear hb)) | (go_at_call 114;(with_reducible refine (strings_Cut.calls t495 (⟨#[32]⟩:ByteArray) t496 t497 t498 _ A4.out).mono ?_);rintro e w' ⟨rfl,⟨nd,rfl⟩⟩;(try first | exact ⟨rfl,_,World.drewN_drewN _ _ _⟩ | exact ⟨rfl,_,Eq.trans (World.drewN_drewN _ _ _) (congrArg (World.drewN _) (Nat.add_assoc _ _ _))⟩)))
 repeat (go_quiet (first | ((with_reducible refine gate_dst (N:=2) rfl ?_);refine box_event ?hg (N:=2) ?hd (cs:=#[.int .i64 a0_0,.bool a0_1,.int .i64 a0_2]) (t:=30) ?hr ?_;(case hd => rfl);(case hg => rfl);(case hr => exact q114_);intro gb494 hg w13 hbox hb;have n0_:=Aside0.mk (below_step q50_ hb);have n1_:=Aside0.mk (hbox);have n2_:=Aside0.mk ((q28_:w.heap.size ≤ gb494));have n3_:=Aside0.mk ((q28_:w.heap.size ≤ gb494));clear HB;have HB:=n0_;have BK494:=n1_;have GW494:=n2_;have GE494:=n3_;clear n0_ n1_ n2_ n3_;clear hb hbox hg;have hcz14_0:w13.cell? ⟨gb494,0,none⟩ = some (.int .i64 a0_0):=(blk_cell BK494.out 0).trans rfl;have hcz14_1:w13.cell? ⟨gb494,1,none⟩ = some (.bool a0_1):=(blk_cell BK494.out 1).trans rfl;have hcz14_2:w13.cell? ⟨gb494,2,none⟩ = some (.int .i64 a0_2):=(blk_cell BK494.out 2).trans rfl;have hfz14_0:=blk_frozen BK494.out 0;have hfz14_1:=blk_frozen BK494.out 1;have hfz14_2:=blk_frozen BK494.out 2) | (go_at_call 46;(with_reducible refine (impl_TemplateOf.calls k a0_0 a0_1 t495 _ A3.out).mono ?_);rintro e w15 ⟨rfl,hb⟩;have n0_:=Aside0.mk (blk_below (g:=gb494) (o:=.cells #[.int .i64 a0_0,.bool a0_1,.int .i64 a0_2] 30 (0,0)) q64_ hb);have n1_:=Aside0.mk (below_step q38_ hb);clear BK494;clear HB;have BK494:=n0_;have HB:=n1_;clear n0_ n1_;(try clear hb)) | (go_at_call 114;(with_reducible refine (strings_Cut.calls t495 (⟨#[32]⟩:ByteArray) t496 t497 t498 _ A4.out).mono ?_);rintro e w' ⟨rfl,⟨nd,rfl⟩⟩;(try first | exact ⟨rfl,_,World.drewN_drewN _ _ _⟩ | exact ⟨rfl,_,Eq.trans (World.drewN_drewN _ _ _) (congrArg (World.drewN _) (Nat.add_assoc _ _ _))⟩)));go_upto_region 5 with (first | ((with_reducible refine gate_dst (N:=2) rfl ?_);refine box_event ?hg (N:=2) ?hd (cs:=#[.int .i64 a0_0,.bool a0_1,.int .i64 a0_2]) (t:=30) ?hr ?_;(case hd => rfl);(case hg => rfl);(case hr => exact q114_);intro gb494 hg w13 hbox hb;have n0_:=Aside0.mk (below_step q50_ hb);have n1_:=Aside0.mk (hbox);have n2_:=Aside0.mk ((q28_:w.heap.size ≤ gb494));have n3_:=Aside0.mk ((q28_:w.heap.size ≤ gb494));clear HB;have HB:=n0_;have BK494:=n1_;have GW494:=n2_;have GE494:=n3_;clear n0_ n1_ n2_ n3_;clear hb hbox hg;have hcz14_0:w13.cell? ⟨gb494,0,none⟩ = some (.int .i64 a0_0):=(blk_cell BK494.out 0).trans rfl;have hcz14_1:w13.cell? ⟨gb494,1,none⟩ = some (.bool a0_1):=(blk_cell BK494.out 1).trans rfl;have hcz14_2:w13.cell? ⟨gb494,2,none⟩ = some (.int .i64 a0_2):=(blk_cell BK494.out 2).trans rfl;have hfz14_0:=blk_frozen BK494.out 0;have hfz14_1:=blk_frozen BK494.out 1;have hfz14_2:=blk_frozen BK494.out 2) | (go_at_call 46;(with_reducible refine (impl_TemplateOf.calls k a0_0 a0_1 t495 _ A3.out).mono ?_);rintro e w15 ⟨rfl,hb⟩;have n0_:=Aside0.mk (blk_below (g:=gb494) (o:=.cells #[.int .i64 a0_0,.bool a0_1,.int .i64 a0_2] 30 (0,0)) q64_ hb);have n1_:=Aside0.mk (below_step q38_ hb);clear BK494;clear HB;have BK494:=n0_;have HB:=n1_;clear n0_ n1_;(try clear hb)) | (go_at_call 114;(with_reducible refine (strings_Cut.calls t495 (⟨#[32]⟩:ByteArray) t496 t497 t498 _ A4.out).mono ?_);rintro e w' ⟨rfl,⟨nd,rfl⟩⟩;(try first | exact ⟨rfl,_,World.drewN_drewN _ _ _⟩ | exact ⟨rfl,_,Eq.trans (World.drewN_drewN _ _ _) (congrArg (World.drewN _) (Nat.add_assoc _ _ _))⟩))))
 (try simp only [Act.put,List.setIfInBounds_toArray,List.set_cons_zero,List.set_cons_succ])
 go_cut [31] (fun v31 wc => ∃ (kq:Nat) (x31_11:Bool),v31 = .bool x31_11 ∧ Aside0 (impl_jumps.j0 kq t496 x31_11 a0_0 a0_1 a0_2 = some (r1,r2)) ∧ Aside0 (kq ≤ k) ∧ Aside0 (wc.heap[gb494]? = some (.cells #[.int .i64 a0_0,.bool a0_1,.int .i64 a0_2] 30 (0,0))) ∧ Aside0 (Below w.heap.size w wc))
 case first =>
  have H:=HC12.out
  clear HC12
  by_cases c16:t496.toList = ([106,112]:List UInt8)
  ·rw [if_pos c16] at H
   have c16b0:(t496.toList == ([106,112]:List UInt8)) = true:=beq_iff_eq.mpr c16
   have c16b1:(t496.toList != ([106,112]:List UInt8)) = false:=bne_eq_false_iff_eq.mpr c16
   clear c16
   (first | rw [c16b0] | (simp only [i64_w,i32_w];rw [c16b0]) | skip)
   have H':=Aside0.mk H
   clear H
   go_wp2
   repeat (go_quiet (fail);try go_wp2)
   go_meet
   case rel => exact ⟨_,((t497.toList != ([104,108]:List UInt8))),q69_,H',⟨q98_⟩,⟨q64_⟩,⟨q38_⟩⟩
  rw [if_neg c16] at H
  have c16b0:(t496.toList == ([106,112]:List UInt8)) = false:=beq_eq_false_iff_ne.mpr c16
  have c16b1:(t496.toList != ([106,112]:List UInt8)) = true:=bne_iff_ne.mpr c16
  (first | rw [c16b0] | (simp only [i64_w,i32_w];rw [c16b0]) | skip)
  by_cases c17:t496.toList = ([99,97,108,108]:List UInt8)
  ·rw [if_pos c17] at H
   have c17b0:(t496.toList == ([99,97,108,108]:List UInt8)) = true:=beq_iff_eq.mpr c17
   have c17b1:(t496.toList != ([99,97,108,108]:List UInt8)) = false:=bne_eq_false_iff_eq.mpr c17
   clear c17
   have H':=Aside0.mk H
   clear H
   go_wp2
   repeat (go_quiet (fail);try go_wp2)
   go_meet
   case rel => exact ⟨_,((t497.toList != ([104,108]:List UInt8))),q69_,H',⟨q98_⟩,⟨q64_⟩,⟨q38_⟩⟩
  rw [if_neg c17] at H
  have c17b0:(t496.toList == ([99,97,108,108]:List UInt8)) = false:=beq_eq_false_iff_ne.mpr c17
  have c17b1:(t496.toList != ([99,97,108,108]:List UInt8)) = true:=bne_iff_ne.mpr c17
  have H':=Aside0.mk H
  clear H
  go_wp2
  repeat (go_quiet (fail);try go_wp2)
  go_meet
  case rel => exact ⟨_,(false),q69_,H',⟨q98_⟩,⟨q64_⟩,⟨q38_⟩⟩
 clear HC12
 try clear c1
 try clear p2
 try clear c5
 try clear c5b0
 try clear c5b1
 try clear p6
 try clear c8
 try clear c16
 try clear c16b0
 try clear c16b1
 try clear c17
 try clear c17b0
 try clear c17b1
 try clear hcz11_0 hcz11_1 hcz11_2
 try clear hcz14_0 hcz14_1 hcz14_2
 try clear hcz9_0 hcz9_1 hcz9_2
 try clear hfz11_0 hfz11_1 hfz11_2
 try clear hfz14_0 hfz14_1 hfz14_2
 try clear hfz9_0 hfz9_1 hfz9_2
 obtain ⟨kq,x31_11,rfl,HA,HJ11,BK494,HB⟩:=hcut
 cases kq with
 | zero => exact absurd HA.out (by simp [impl_jumps.j0])
 | succ kj11 =>
  have H:=HA.out
  clear HA
  simp only [impl_jumps.j0] at H
  by_cases c18:x31_11 = true
  ·subst c18
   replace H:(some (a0_2,true)) = some (r1,r2):=by rw [if_pos rfl] at H;exact H
   simp only [Option.some.injEq,Prod.mk.injEq] at H
   obtain ⟨rfl,rfl⟩:=H
   have hcz19_0:wc.cell? ⟨gb494,0,none⟩ = some (.int .i64 a0_0):=bz_ BK494 0
   have hcz19_1:wc.cell? ⟨gb494,1,none⟩ = some (.bool a0_1):=bz_ BK494 1
   have hcz19_2:wc.cell? ⟨gb494,2,none⟩ = some (.int .i64 a0_2):=bz_ BK494 2
   have hfz19_0:=blk_frozen BK494.out 0
   have hfz19_1:=blk_frozen BK494.out 1
   have hfz19_2:=blk_frozen BK494.out 2
   go_wp2
   repeat (go_quiet (fail);try go_wp2)
   go_ret2
   exact ⟨q39_,q38_⟩
  replace c18:=Bool.eq_false_iff.mpr c18
  subst c18
  replace H:(if t496.toList = ([114,115,116]:List UInt8) then (some (Go.bits .and .i64 a0_0 56,true)) else (some (0,false))) = some (r1,r2):=by rw [if_neg (show ¬ (false = true) by decide)] at H;exact H
  by_cases c20:t496.toList = ([114,115,116]:List UInt8)
  ·rw [if_pos c20] at H
   have c20b0:(t496.toList == ([114,115,116]:List UInt8)) = true:=beq_iff_eq.mpr c20
   have c20b1:(t496.toList != ([114,115,116]:List UInt8)) = false:=bne_eq_false_iff_eq.mpr c20
   clear c20
   simp only [Option.some.injEq,Prod.mk.injEq] at H
   obtain ⟨rfl,rfl⟩:=H
   have hcz21_0:wc.cell? ⟨gb494,0,none⟩ = some (.int .i64 a0_0):=bz_ BK494 0
   have hcz21_1:wc.cell? ⟨gb494,1,none⟩ = some (.bool a0_1):=bz_ BK494 1
   have hcz21_2:wc.cell? ⟨gb494,2,none⟩ = some (.int .i64 a0_2):=bz_ BK494 2
   have hfz21_0:=blk_frozen BK494.out 0
   have hfz21_1:=blk_frozen BK494.out 1
   have hfz21_2:=blk_frozen BK494.out 2
   go_wp2
   repeat (go_quiet (fail);try go_wp2)
   go_ret2
   exact ⟨q39_,q38_⟩
  rw [if_neg c20] at H
  have c20b0:(t496.toList == ([114,115,116]:List UInt8)) = false:=beq_eq_false_iff_ne.mpr c20
  have c20b1:(t496.toList != ([114,115,116]:List UInt8)) = true:=bne_iff_ne.mpr c20
  simp only [Option.some.injEq,Prod.mk.injEq] at H
  obtain ⟨rfl,rfl⟩:=H
  go_wp2
  repeat (go_quiet (fail);try go_wp2)
  go_ret2
  exact ⟨q39_,q38_⟩
def stringslite_HasPrefix.f (a0:ByteArray) (a1:ByteArray):Option (Bool):=if (a0.size:Int) ≥ (a1.size:Int) then (if 0 ≤ (a1.size:Int) then (if (a1.size:Int) ≤ (a0.size:Int) then (some ((a0.extract 0 ((a1.size:Int):Int).toNat).toList == a1.toList)) else (none)) else (none)) else (some false)
theorem stringslite_HasPrefix.calls (a0:ByteArray) (a1:ByteArray) (r:Bool) (w:World) (h:stringslite_HasPrefix.f a0 a1 = some r) :
  Calls Tryz.prog 145 #[.string a0,.string a1] w fun e w' => e = .returned (.bool r) ∧ Drawn0 w w':=by
 have H:(if (a0.size:Int) ≥ (a1.size:Int) then (if 0 ≤ (a1.size:Int) then (if (a1.size:Int) ≤ (a0.size:Int) then (some ((a0.extract 0 ((a1.size:Int):Int).toNat).toList == a1.toList)) else (none)) else (none)) else (some false)) = some r:=h
 clear h
 by_cases c3:(a0.size:Int) ≥ (a1.size:Int)
 ·rw [if_pos c3] at H
  have c3b0:decide ((a1.size:Int) ≤ (a0.size:Int)) = true:=decide_eq_true c3
  have c3b1:decide (a1.size ≤ a0.size) = true:=decide_eq_true (Int.ofNat_le.mp c3)
  clear c3
  by_cases c4:0 ≤ (a1.size:Int)
  rotate_left
  ·rw [if_neg c4] at H
   exact absurd H (by simp)
  rw [if_pos c4] at H
  have c4b0:=eq_true c4
  have c4b1:decide (0 ≤ (a1.size:Int)) = true:=decide_eq_true c4
  clear c4
  by_cases c5:(a1.size:Int) ≤ (a0.size:Int)
  rotate_left
  ·rw [if_neg c5] at H
   exact absurd H (by simp)
  rw [if_pos c5] at H
  have c5b0:=eq_true c5
  have c5b1:decide ((a1.size:Int) ≤ (a0.size:Int)) = true:=decide_eq_true c5
  clear c5
  obtain rfl:=Option.some.inj H
  go_enter Tryz.func145,Tryz.ntmps145
  go_wp2
  go_ret
  exact ⟨q69_,q85_⟩
 rw [if_neg c3] at H
 have c3b0:decide ((a1.size:Int) ≤ (a0.size:Int)) = false:=decide_eq_false c3
 have c3b1:decide (a1.size ≤ a0.size) = false:=decide_eq_false (fun h => c3 (Int.ofNat_le.mpr h))
 clear c3
 obtain rfl:=Option.some.inj H
 go_enter Tryz.func145,Tryz.ntmps145
 go_wp2
 go_ret
 exact ⟨q69_,q85_⟩
end Go.Proofs.YtodlnnoekccmmaaGreatDoor.QFnExactListed
