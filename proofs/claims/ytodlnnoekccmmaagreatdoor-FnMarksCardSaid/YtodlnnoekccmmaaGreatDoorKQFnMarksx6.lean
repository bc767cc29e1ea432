/- The machine's side of a law,written by a program of this session for this claim. -/
import Derived.Test.YtodlnnoekccmmaaGreatDoorKQq
import Derived.Test.YtodlnnoekccmmaaGreatDoorKQFnMarksx0
import Derived.Test.YtodlnnoekccmmaaGreatDoorKQFnMarksx1
import Derived.Test.YtodlnnoekccmmaaGreatDoorKQFnMarksx5
namespace Go.Proofs.YtodlnnoekccmmaaGreatDoor.QFnMarks
open Go.Proofs.YtodlnnoekccmmaaGreatDoor.Qq
open Go.RowKit Go.Proofs.YtodlnnoekccmmaaGreatDoor.LibX Go.Proofs.YtodlnnoekccmmaaGreatDoor.LibE Go.Proofs.YtodlnnoekccmmaaGreatDoor.LibCB Go.Proofs.YtodlnnoekccmmaaGreatDoorW.PrintWords Go.Proofs.YtodlnnoekccmmaaGreatDoorW.PrintLast Go.Proofs.YtodlnnoekccmmaaGreatDoorW.PrintMore
attribute [local go_sem] max2_int min2_int max_two min_two max_three min_three max_four min_four   -- for this text's walks alone
set_option maxHeartbeats 8000000
set_option maxRecDepth 100000
set_option linter.unusedVariables false
set_option linter.unusedSimpArgs false
def impl_holeOf.l0:Nat → ByteArray → List ByteArray → Int → Int → Option (ByteArray)
 | 0,_,_,_,_ => none
 | k + 1,x0,x5,x6,x7 => if x7 < x6 then (if 0 ≤ x7 then (if x7 < (x5.length:Int) then ((strings_Contains.f x0 (rdOf ByteArray.empty x5 x7)).bind fun t246 => (if t246 = true then (some (rdOf ByteArray.empty x5 x7)) else (impl_holeOf.l0 k x0 x5 x6 (wrap64 (x7 + 1))))) else (none)) else (none)) else (some (⟨#[]⟩:ByteArray))
def impl_holeOf.f (k:Nat) (a0:ByteArray):Option (ByteArray):=(impl_names.f (⟨#[110,49,54,32,110,56,32,101,56]⟩:ByteArray)).bind fun t242 => (impl_holeOf.l0 k a0 t242 (t242.length:Int) 0)
theorem impl_holeOf.mono_l:∀ k,(∀ y0 y1 y2 y3,LeO (impl_holeOf.l0 k y0 y1 y2 y3) (impl_holeOf.l0 (k + 1) y0 y1 y2 y3))
 | 0 => fun _ _ _ _ r h => by simp [impl_holeOf.l0] at h
 | k + 1 => by
  have ih0:=impl_holeOf.mono_l k
  intro y0 y1 y2 y3
  unfold impl_holeOf.l0
  repeat' first
  | (with_reducible first | exact ih0 _ _ _ _ | exact LeO.refl _ | exact LeO.none _ | refine LeO.ite ?_ ?_ | refine LeO.bind ?_ (fun _ => ?_))
  | exact ih0 _ _ _ _
  | exact LeO.none _
  | refine LeO.ite ?_ ?_
  | refine LeO.bind ?_ (fun _ => ?_)
theorem impl_holeOf.mono:∀ a0 k,LeO (impl_holeOf.f k a0) (impl_holeOf.f (k + 1) a0):=by
 intro a0 k
 have ih0:=impl_holeOf.mono_l k
 unfold impl_holeOf.f
 repeat' first
   | (with_reducible first | exact ih0 _ _ _ _ | exact LeO.refl _ | exact LeO.none _ | refine LeO.ite ?_ ?_ | refine LeO.bind ?_ (fun _ => ?_))
   | exact ih0 _ _ _ _
   | exact LeO.none _
   | refine LeO.ite ?_ ?_
   | refine LeO.bind ?_ (fun _ => ?_)
theorem impl_holeOf.calls (k:Nat) (a0:ByteArray) (r:ByteArray) (w:World) (h:impl_holeOf.f k a0 = some r) (hG:Go.Proofs.YtodlnnoekccmmaaGreatDoor.LibW.GL w:=by first | exact hG | exact hG.below q5_ | exact hG.drewN _) :
  Calls Tryz.prog 47 #[.string a0] w fun e w' => e = .returned (.string r) ∧ Below w.heap.size w w':=by
 have HB:=Aside0.mk (Below.refl w.heap.size w)
 have H:=h;unfold impl_holeOf.f at H
 clear h
 replace H:=Option.bind_eq_some_iff.mp H
 obtain ⟨t242,A20,H⟩:=H
 have A2:=Aside0.mk A20
 clear A20
 have H':=Aside0.mk H
 clear H
 go_enter Tryz.func47,Tryz.ntmps47
 go_wp2_with (first | ((with_reducible refine gate_callee (f:=97) rfl ?_);refine goesL_ (some 5) rfl rfl Tryz.func97 (by kernel_rfl) rfl #[.string (⟨#[110,49,54,32,110,56,32,101,56]⟩:ByteArray)] rfl q68_ ?_;(with_reducible refine (impl_names.calls (⟨#[110,49,54,32,110,56,32,101,56]⟩:ByteArray) t242 _ A2.out).mono ?_);rintro e w3 ⟨v243,rfl,ho0,hb⟩;refine ⟨_,rfl,?_⟩;have n0_:=Aside0.mk (Kd.R_lower ho0 (below_size q70_));have n1_:=Aside0.mk (below_step q70_ hb);clear HB;have HO244:=n0_;have HB:=n1_;clear n0_ n1_;(try clear hb);(try clear ho0);obtain ⟨Ao4,co4,eo4⟩:=Kd.R_slice HO244.out;subst eo4))
 go_loopg [7] k (fun kq v7 w' => ∃ (x7_1:Int),v7 = .int .i64 x7_1 ∧ Aside0 (impl_holeOf.l0 kq a0 t242 (t242.length:Int) x7_1 = some r) ∧ Aside0 (kq ≤ k) ∧ Aside0 (Kd.R Kd.string 9 w' w.heap.size (fun _ => True) (.slice Ao4 t242.length co4) t242) ∧ Aside0 (Below w.heap.size w w'))
 case atStart => exact ⟨(0),q94_,H',⟨Nat.le_refl _⟩,⟨by (with_reducible repeat (first | apply Kd.R_alloc | apply Kd.R_drewN | apply Kd.R_drew));exact HO244.out⟩,⟨q70_⟩⟩
 clear H'
 try clear p2
 try clear c4
 obtain ⟨x7_1,rfl,HA,HK1,HO_5,HB⟩:=hrel
 cases gk with
 | zero => exact absurd HA.out (by simp [impl_holeOf.l0])
 | succ k1 =>
  have H:=HA.out
  clear HA
  simp only [impl_holeOf.l0] at H
  by_cases c5:x7_1 < (t242.length:Int)
  ·rw [if_pos c5] at H
   have c5b0:=decide_eq_true c5
   clear c5
   by_cases c6:0 ≤ x7_1
   rotate_left
   ·rw [if_neg c6] at H
    exact absurd H (by simp)
   rw [if_pos c6] at H
   have c6b0:=decide_eq_true c6
   clear c6
   by_cases c7:x7_1 < (t242.length:Int)
   rotate_left
   ·rw [if_neg c7] at H
    exact absurd H (by simp)
   rw [if_pos c7] at H
   have c7b0:=decide_eq_true c7
   clear c7
   replace H:=Option.bind_eq_some_iff.mp H
   obtain ⟨t246,A80,H⟩:=H
   have A8:=Aside0.mk A80
   clear A80
   by_cases c9:t246 = true
   ·subst c9
    rewrite [if_pos rfl] at H
    obtain rfl:=Option.some.inj H
    have p245:0 ≤ (x7_1:Int):=of_decide_eq_true q119_
    have q245:x7_1 < (t242.length:Int):=of_decide_eq_true q119_
    obtain ⟨ad245,e245,hx245_0⟩:=Kd.at_string (Kd.R_reads' HO_5.out).2.2 x7_1 p245 q245
    cases e245
    replace p245:=eq_true p245
    replace q245:=eq_true q245
    go_wp2_with (first | ((with_reducible refine gate_callee (f:=98) rfl ?_);refine goesL_ (some 13) rfl rfl Tryz.func98 (by kernel_rfl) rfl #[.string a0,.string (rdOf ByteArray.empty t242 x7_1)] rfl q68_ ?_;(with_reducible refine (strings_Contains.calls a0 (rdOf ByteArray.empty t242 x7_1) true _ A8.out).mono ?_);rintro e w' ⟨rfl,⟨nd,rfl⟩⟩;refine ⟨_,rfl,?_⟩))
    go_ret
    exact ⟨q75_,q70_⟩
   replace c9:=Bool.eq_false_iff.mpr c9
   subst c9
   rewrite [if_neg (show ¬ (false = true) by decide)] at H
   have H':=Aside0.mk H
   clear H
   have p245:0 ≤ (x7_1:Int):=of_decide_eq_true q119_
   have q245:x7_1 < (t242.length:Int):=of_decide_eq_true q119_
   obtain ⟨ad245,e245,hx245_0⟩:=Kd.at_string (Kd.R_reads' HO_5.out).2.2 x7_1 p245 q245
   cases e245
   replace p245:=eq_true p245
   replace q245:=eq_true q245
   go_wp2_with (first | ((with_reducible refine gate_callee (f:=98) rfl ?_);refine goesL_ (some 13) rfl rfl Tryz.func98 (by kernel_rfl) rfl #[.string a0,.string (rdOf ByteArray.empty t242 x7_1)] rfl q68_ ?_;(with_reducible refine (strings_Contains.calls a0 (rdOf ByteArray.empty t242 x7_1) false _ A8.out).mono ?_);rintro e w' ⟨rfl,⟨nd,rfl⟩⟩;refine ⟨_,rfl,?_⟩))
   go_roundg k1
   case measure => have:=HK1.out;omega
   case rel => exact ⟨(wrap64 (x7_1 + 1)),q94_,H',⟨by have:=HK1.out;omega⟩,⟨q110_⟩,⟨q70_⟩⟩
  rw [if_neg c5] at H
  have c5b0:=decide_eq_false c5
  clear c5
  obtain rfl:=Option.some.inj H
  go_wp2
  go_ret
  exact ⟨q75_,q70_⟩
def impl_LengthOf.j0:Nat → ByteArray → Bool → Option (Int)
 | 0,_,_ => none
 | k + 1,x6,x15 => if x15 = true then (some 2) else (if x6.toList = ([110,49,54]:List UInt8) then (some 3) else (some 1))
def impl_LengthOf.f (k:Nat) (a0:Int) (a1:Bool):Option (Int):=(impl_TemplateOf.f k a0 a1).bind fun t247 => ((impl_holeOf.f k t247).bind fun t248 => (if t247.toList = ([]:List UInt8) then (some 0) else (if a1 = true then (impl_LengthOf.j0 k t248 true) else (if t248.toList = ([110,56]:List UInt8) then (impl_LengthOf.j0 k t248 true) else (impl_LengthOf.j0 k t248 (t248.toList == ([101,56]:List UInt8)))))))
theorem impl_LengthOf.calls (k:Nat) (a0:Int) (a1:Bool) (r:Int) (w:World) (h:impl_LengthOf.f k a0 a1 = some r) (hG:Go.Proofs.YtodlnnoekccmmaaGreatDoor.LibW.GL w:=by first | exact hG | exact hG.below q5_ | exact hG.drewN _) :
  Calls Tryz.prog 13 #[.int .i64 a0,.bool a1] w fun e w' => e = .returned (.int .i64 r) ∧ Below w.heap.size w w':=by
 have HB:=Aside0.mk (Below.refl w.heap.size w)
 have H:=h;unfold impl_LengthOf.f at H
 clear h
 replace H:=Option.bind_eq_some_iff.mp H
 obtain ⟨t247,A30,H⟩:=H
 have A3:=Aside0.mk A30
 clear A30
 replace H:=Option.bind_eq_some_iff.mp H
 obtain ⟨t248,A40,H⟩:=H
 have A4:=Aside0.mk A40
 clear A40
 by_cases c5:t247.toList = ([]:List UInt8)
 ·rw [if_pos c5] at H
  have c5b0:(t247.toList == ([]:List UInt8)) = true:=beq_iff_eq.mpr c5
  have c5b1:(t247.toList != ([]:List UInt8)) = false:=bne_eq_false_iff_eq.mpr c5
  clear c5
  obtain rfl:=Option.some.inj H
  go_enter Tryz.func13,Tryz.ntmps13
  go_wp2_with (first | ((with_reducible refine gate_callee (f:=46) rfl ?_);refine goesL_ (some 9) rfl rfl Tryz.func46 (by kernel_rfl) rfl #[.int .i64 a0,.bool a1] rfl q68_ ?_;(with_reducible refine (impl_TemplateOf.calls k a0 a1 t247 _ A3.out).mono ?_);rintro e w6 ⟨rfl,hb⟩;refine ⟨_,rfl,?_⟩;replace HB:=Aside0.mk (below_step q70_ hb);(try clear hb)) | ((with_reducible refine gate_callee (f:=47) rfl ?_);refine goesL_ (some 11) rfl rfl Tryz.func47 (by kernel_rfl) rfl #[.string t247] rfl q68_ ?_;(with_reducible refine (impl_holeOf.calls k t247 t248 _ A4.out).mono ?_);rintro e w7 ⟨rfl,hb⟩;refine ⟨_,rfl,?_⟩;replace HB:=Aside0.mk (below_step q70_ hb);(try clear hb)))
  go_ret
  exact ⟨q75_,q70_⟩
 rw [if_neg c5] at H
 have c5b0:(t247.toList == ([]:List UInt8)) = false:=beq_eq_false_iff_ne.mpr c5
 have c5b1:(t247.toList != ([]:List UInt8)) = true:=bne_iff_ne.mpr c5
 have HC8:=Aside0.mk H
 clear H
 go_enter Tryz.func13,Tryz.ntmps13
 go_upto_region 5 with (first | ((with_reducible refine gate_callee (f:=46) rfl ?_);refine goesL_ (some 9) rfl rfl Tryz.func46 (by kernel_rfl) rfl #[.int .i64 a0,.bool a1] rfl q68_ ?_;(with_reducible refine (impl_TemplateOf.calls k a0 a1 t247 _ A3.out).mono ?_);rintro e w9 ⟨rfl,hb⟩;refine ⟨_,rfl,?_⟩;replace HB:=Aside0.mk (below_step q70_ hb);(try clear hb)) | ((with_reducible refine gate_callee (f:=47) rfl ?_);refine goesL_ (some 11) rfl rfl Tryz.func47 (by kernel_rfl) rfl #[.string t247] rfl q68_ ?_;(with_reducible refine (impl_holeOf.calls k t247 t248 _ A4.out).mono ?_);rintro e w10 ⟨rfl,hb⟩;refine ⟨_,rfl,?_⟩;replace HB:=Aside0.mk (below_step q70_ hb);(try clear hb)))
 (try simp only [Act.put,List.setIfInBounds_toArray,List.set_cons_zero,List.set_cons_succ])
 go_cut [15] (fun v15 wc => ∃ (kq:Nat) (x15_7:Bool),v15 = .bool x15_7 ∧ Aside0 (impl_LengthOf.j0 kq t248 x15_7 = some r) ∧ Aside0 (kq ≤ k) ∧ Aside0 (Below w.heap.size w wc))
 case first =>
  have H:=HC8.out
  clear HC8
  by_cases c11:a1 = true
  ·subst c11
   rewrite [if_pos rfl] at H
   have H':=Aside0.mk H
   clear H
   go_wp2
   go_meet
   case rel => exact ⟨_,(true),q94_,H',⟨q132_⟩,⟨q70_⟩⟩
  replace c11:=Bool.eq_false_iff.mpr c11
  subst c11
  rewrite [if_neg (show ¬ (false = true) by decide)] at H
  by_cases c12:t248.toList = ([110,56]:List UInt8)
  ·rw [if_pos c12] at H
   have c12b0:(t248.toList == ([110,56]:List UInt8)) = true:=beq_iff_eq.mpr c12
   have c12b1:(t248.toList != ([110,56]:List UInt8)) = false:=bne_eq_false_iff_eq.mpr c12
   clear c12
   (first | rw [c12b0] | (simp only [i64_w,i32_w];rw [c12b0]) | skip)
   have H':=Aside0.mk H
   clear H
   go_wp2
   go_meet
   case rel => exact ⟨_,(true),q94_,H',⟨q132_⟩,⟨q70_⟩⟩
  rw [if_neg c12] at H
  have c12b0:(t248.toList == ([110,56]:List UInt8)) = false:=beq_eq_false_iff_ne.mpr c12
  have c12b1:(t248.toList != ([110,56]:List UInt8)) = true:=bne_iff_ne.mpr c12
  (first | rw [c12b0] | (simp only [i64_w,i32_w];rw [c12b0]) | skip)
  have H':=Aside0.mk H
  clear H
  go_wp2
  go_meet
  case rel => exact ⟨_,((t248.toList == ([101,56]:List UInt8))),q94_,H',⟨q132_⟩,⟨q70_⟩⟩
 clear HC8
 try clear c1
 try clear p2
 try clear c4
 try clear c5
 try clear c5b0
 try clear c5b1
 try clear p6
 try clear c11
 try clear c12
 try clear c12b0
 try clear c12b1
 obtain ⟨kq,x15_7,rfl,HA,HJ7,HB⟩:=hcut
 cases kq with
 | zero => exact absurd HA.out (by simp [impl_LengthOf.j0])
 | succ kj7 =>
  have H:=HA.out
  clear HA
  simp only [impl_LengthOf.j0] at H
  by_cases c13:x15_7 = true
  ·subst c13
   rewrite [if_pos rfl] at H
   obtain rfl:=Option.some.inj H
   go_wp2
   go_ret
   exact ⟨q75_,q70_⟩
  replace c13:=Bool.eq_false_iff.mpr c13
  subst c13
  rewrite [if_neg (show ¬ (false = true) by decide)] at H
  by_cases c14:t248.toList = ([110,49,54]:List UInt8)
  ·rw [if_pos c14] at H
   have c14b0:(t248.toList == ([110,49,54]:List UInt8)) = true:=beq_iff_eq.mpr c14
   have c14b1:(t248.toList != ([110,49,54]:List UInt8)) = false:=bne_eq_false_iff_eq.mpr c14
   clear c14
   obtain rfl:=Option.some.inj H
   go_wp2
   go_ret
   exact ⟨q75_,q70_⟩
  rw [if_neg c14] at H
  have c14b0:(t248.toList == ([110,49,54]:List UInt8)) = false:=beq_eq_false_iff_ne.mpr c14
  have c14b1:(t248.toList != ([110,49,54]:List UInt8)) = true:=bne_iff_ne.mpr c14
  obtain rfl:=Option.some.inj H
  go_wp2
  go_ret
  exact ⟨q75_,q70_⟩
mutual
def impl_ReadIns.j0:Nat → ByteArray → Int → Bool → Int → Bool → Int → Option (Int × Bool × Int × Int)
 | 0,_,_,_,_,_,_ => none
 | k + 1,x0,x7,x44,x252000,x252001,x252002 => if x44 = true then (some (0,false,0,0)) else (impl_ReadIns.l0 k x0 x7 (wrap64 (x7 - 1)) x252000 x252001 x252002)
def impl_ReadIns.l0:Nat → ByteArray → Int → Int → Int → Bool → Int → Option (Int × Bool × Int × Int)
 | 0,_,_,_,_,_,_ => none
 | k + 1,x0,x7,x8,x252000,x252001,x252002 => if x8 > 0 then (if 0 ≤ x8 then (if x8 < (x0.size:Int) then (impl_ReadIns.l0 k x0 x7 (wrap64 (x8 - 1)) x252000 x252001 (Go.bits .or .i64 (wrap64 (x252002 * 256)) (wrap64 (bt x0 x8)))) else (none)) else (none)) else (some (x252000,x252001,x252002,x7))
end
def impl_ReadIns.f (k:Nat) (a0:ByteArray) (a1:Int):Option (Int × Bool × Int × Int):=(impl_within.f a1 0 (wrap64 ((a0.size:Int) - 1))).bind fun t250 => (if t250 = true then (if 0 ≤ a1 then (if a1 ≤ (a0.size:Int) then (if 0 < ((a0.extract (a1:Int).toNat a0.size).size:Int) then (if (bt (a0.extract (a1:Int).toNat a0.size) 0) = 203 then (if ((a0.extract (a1:Int).toNat a0.size).size:Int) < 2 then (some (0,false,0,0)) else (if 1 < ((a0.extract (a1:Int).toNat a0.size).size:Int) then (some (wrap64 (bt (a0.extract (a1:Int).toNat a0.size) 1),true,0,2)) else (none))) else ((impl_LengthOf.f k (wrap64 (bt (a0.extract (a1:Int).toNat a0.size) 0)) false).bind fun t252 => (if t252 = 0 then (impl_ReadIns.j0 k (a0.extract (a1:Int).toNat a0.size) t252 true (wrap64 (bt (a0.extract (a1:Int).toNat a0.size) 0)) false 0) else (impl_ReadIns.j0 k (a0.extract (a1:Int).toNat a0.size) t252 (decide (((a0.extract (a1:Int).toNat a0.size).size:Int) < t252)) (wrap64 (bt (a0.extract (a1:Int).toNat a0.size) 0)) false 0)))) else (none)) else (none)) else (none)) else (some (0,false,0,0)))
def impl_ReadIns.T15:Bool × List (List Nat × List Nat):=(true,[([],[]),([0],[0]),([1],[1]),([],[]),([],[]),([3,4],[3,4]),([5],[5]),([2,6],[2,6]),([0,1,2,3,4,5,6,7],[]),([8,7,0,1,2,3,4,5,6,7],[7,8])])
def impl_ReadIns.B15:List Nat:=[0,1,3,0,0,24,56,127,255,511]
theorem impl_ReadIns.tab15:rtab .any (opsOf Tryz.f22 15) = impl_ReadIns.T15:=by kernel_rfl
theorem impl_ReadIns.bits15:waitsOk impl_ReadIns.T15.2 impl_ReadIns.B15 = true:=by kernel_rfl
theorem impl_ReadIns.calls (k:Nat) (a0:ByteArray) (a1:Int) (r1:Int) (r2:Bool) (r3:Int) (r4:Int) (w:World) (h:impl_ReadIns.f k a0 a1 = some (r1,r2,r3,r4)) (hG:Go.Proofs.YtodlnnoekccmmaaGreatDoor.LibW.GL w:=by first | exact hG | exact hG.below q5_ | exact hG.drewN _) :
  Calls Tryz.prog 22 #[.string a0,.int .i64 a1] w fun e w' => e = .returned (.tuple #[.agg #[.int .i64 r1,.bool r2,.int .i64 r3],.int .i64 r4]) ∧ Below w.heap.size w w':=by
 have hu30:=Tryz.underlying30
 have HB:=Aside0.mk (Below.refl w.heap.size w)
 have H:=h;unfold impl_ReadIns.f at H
 clear h
 replace H:=Option.bind_eq_some_iff.mp H
 obtain ⟨t250,A30,H⟩:=H
 have A3:=Aside0.mk A30
 clear A30
 by_cases c4:t250 = true
 ·subst c4
  rewrite [if_pos rfl] at H
  by_cases c5:0 ≤ a1
  rotate_left
  ·rw [if_neg c5] at H
   exact absurd H (by simp)
  rw [if_pos c5] at H
  have c5b0:=eq_true c5
  have c5b1:=decide_eq_true c5
  clear c5
  by_cases c6:a1 ≤ (a0.size:Int)
  rotate_left
  ·rw [if_neg c6] at H
   exact absurd H (by simp)
  rw [if_pos c6] at H
  have c6b0:=eq_true c6
  have c6b1:=decide_eq_true c6
  clear c6
  by_cases c7:0 < ((a0.extract (a1:Int).toNat a0.size).size:Int)
  rotate_left
  ·rw [if_neg c7] at H
   exact absurd H (by simp)
  rw [if_pos c7] at H
  have c7b0:=decide_eq_true c7
  (try (have c7b0e:=c7b0;simp only [ByteArray.size_append,ByteArray.size_extract,Nat.min_self,Nat.sub_zero] at c7b0e))
  (try (first | (have c7b0p:=eq_true (of_decide_eq_true c7b0e)) | (have c7b0p:=eq_false (of_decide_eq_false c7b0e))))
  have c7b1:decide (0 < (a0.extract (a1:Int).toNat a0.size).size) = true:=decide_eq_true (by omega)
  (try (have c7b1e:=c7b1;simp only [ByteArray.size_append,ByteArray.size_extract,Nat.min_self,Nat.sub_zero] at c7b1e))
  (try (first | (have c7b1p:=eq_true (of_decide_eq_true c7b1e)) | (have c7b1p:=eq_false (of_decide_eq_false c7b1e))))
  clear c7
  by_cases c9:(bt (a0.extract (a1:Int).toNat a0.size) 0) = 203
  ·rw [if_pos c9] at H
   have c9b0:((bt (a0.extract (a1:Int).toNat a0.size) 0) == 203) = true:=beq_iff_eq.mpr c9
   have c9b1:((bt (a0.extract (a1:Int).toNat a0.size) 0) != 203) = false:=bne_eq_false_iff_eq.mpr c9
   clear c9
   by_cases c10:((a0.extract (a1:Int).toNat a0.size).size:Int) < 2
   ·rw [if_pos c10] at H
    have c10b0:=decide_eq_true c10
    (try (have c10b0e:=c10b0;simp only [ByteArray.size_append,ByteArray.size_extract,Nat.min_self,Nat.sub_zero] at c10b0e))
    (try (first | (have c10b0p:=eq_true (of_decide_eq_true c10b0e)) | (have c10b0p:=eq_false (of_decide_eq_false c10b0e))))
    have c10b1:decide ((a0.extract (a1:Int).toNat a0.size).size < 2) = true:=decide_eq_true (by omega)
    (try (have c10b1e:=c10b1;simp only [ByteArray.size_append,ByteArray.size_extract,Nat.min_self,Nat.sub_zero] at c10b1e))
    (try (first | (have c10b1p:=eq_true (of_decide_eq_true c10b1e)) | (have c10b1p:=eq_false (of_decide_eq_false c10b1e))))
    clear c10
    simp only [Option.some.injEq,Prod.mk.injEq] at H
    obtain ⟨rfl,rfl,rfl,rfl⟩:=H
    go_enter Tryz.func22,Tryz.ntmps22
    go_wp2_with (first | ((with_reducible refine gate_dst (N:=4) rfl ?_);(try (refine gate_guard (by rfl) ?_;dsimp only));refine box_event ?hg (N:=4) ?hd (cs:=#[.int .i64 0,.bool false,.int .i64 0]) (t:=30) ?hr ?_;(case hd => rfl);(case hg => rfl);(case hr => exact q153_);intro gb249 hg w11 hbox hb;have n0_:=Aside0.mk (below_step q70_ hb);have n1_:=Aside0.mk (hbox);have n2_:=Aside0.mk ((q46_:w.heap.size ≤ gb249));have n3_:=Aside0.mk ((q46_:w.heap.size ≤ gb249));clear HB;have HB:=n0_;have BK249:=n1_;have GW249:=n2_;have GE249:=n3_;clear n0_ n1_ n2_ n3_;clear hb hbox hg) | ((with_reducible refine gate_callee (f:=61) rfl ?_);refine goesL_ (some 13) rfl rfl Tryz.func61 (by kernel_rfl) rfl #[.int .i64 a1,.int .i64 0,.int .i64 (wrap64 ((a0.size:Int) - 1))] rfl q10_ ?_;(with_reducible refine (impl_within.calls a1 0 (wrap64 ((a0.size:Int) - 1)) true _ A3.out).mono ?_);rintro e w' ⟨rfl,⟨nd,rfl⟩⟩;refine ⟨_,rfl,?_⟩;(try (rw [drewN_self w11];generalize hq_:World.drewN w11 _ = w11;have n0_:Aside0 (w11.heap[gb249]? = some (.cells #[.int .i64 0,.bool false,.int .i64 0] 30 (0,0))):=⟨q66_⟩;have n1_:Aside0 (Below w.heap.size w w11):=⟨q37_⟩;clear BK249 HB hq_;have BK249:=n0_;have HB:=n1_;clear n0_ n1_));have p8:0 ≤ (0:Int):=(by omega);have q8:0 < (a0.extract (a1:Int).toNat a0.size).size:=(by have:(0:Int) < ((a0.extract (a1:Int).toNat a0.size).size:Int):=of_decide_eq_true q119_;omega);have hx8:∀ h:0 < (a0.extract (a1:Int).toNat a0.size).size,(((a0.extract (a1:Int).toNat a0.size)[0]'h).toNat:Int) = bt (a0.extract (a1:Int).toNat a0.size) 0:=bt_at (a0.extract (a1:Int).toNat a0.size) 0;clear p8;have qi8:(0 < ((a0.extract (a1:Int).toNat a0.size).size:Int)) = True:=eq_true (of_decide_eq_true q119_);replace q8:=eq_true q8;have hcz12_0:w11.cell? ⟨gb249,0,none⟩ = some (.int .i64 0):=(blk_cell BK249.out 0).trans rfl;have hcz12_1:w11.cell? ⟨gb249,1,none⟩ = some (.bool false):=(blk_cell BK249.out 1).trans rfl;have hcz12_2:w11.cell? ⟨gb249,2,none⟩ = some (.int .i64 0):=(blk_cell BK249.out 2).trans rfl;have hfz12_0:=blk_frozen BK249.out 0;have hfz12_1:=blk_frozen BK249.out 1;have hfz12_2:=blk_frozen BK249.out 2))
    refine bodyPost_ret (results_ct rfl _ _ gb249 30 #[.int .i64 0,.bool false,.int .i64 0] (0,0) _ rfl q2_ Tryz.underlying30 rfl (by kernel_rfl)) rfl ?_
    exact ⟨q75_,q47_⟩
   rw [if_neg c10] at H
   have c10b0:=decide_eq_false c10
   (try (have c10b0e:=c10b0;simp only [ByteArray.size_append,ByteArray.size_extract,Nat.min_self,Nat.sub_zero] at c10b0e))
   (try (first | (have c10b0p:=eq_true (of_decide_eq_true c10b0e)) | (have c10b0p:=eq_false (of_decide_eq_false c10b0e))))
   have c10b1:decide ((a0.extract (a1:Int).toNat a0.size).size < 2) = false:=decide_eq_false (by omega)
   (try (have c10b1e:=c10b1;simp only [ByteArray.size_append,ByteArray.size_extract,Nat.min_self,Nat.sub_zero] at c10b1e))
   (try (first | (have c10b1p:=eq_true (of_decide_eq_true c10b1e)) | (have c10b1p:=eq_false (of_decide_eq_false c10b1e))))
   clear c10
   by_cases c13:1 < ((a0.extract (a1:Int).toNat a0.size).size:Int)
   rotate_left
   ·rw [if_neg c13] at H
    exact absurd H (by simp)
   rw [if_pos c13] at H
   have c13b0:=decide_eq_true c13
   (try (have c13b0e:=c13b0;simp only [ByteArray.size_append,ByteArray.size_extract,Nat.min_self,Nat.sub_zero] at c13b0e))
   (try (first | (have c13b0p:=eq_true (of_decide_eq_true c13b0e)) | (have c13b0p:=eq_false (of_decide_eq_false c13b0e))))
   have c13b1:decide (1 < (a0.extract (a1:Int).toNat a0.size).size) = true:=decide_eq_true (by omega)
   (try (have c13b1e:=c13b1;simp only [ByteArray.size_append,ByteArray.size_extract,Nat.min_self,Nat.sub_zero] at c13b1e))
   (try (first | (have c13b1p:=eq_true (of_decide_eq_true c13b1e)) | (have c13b1p:=eq_false (of_decide_eq_false c13b1e))))
   clear c13
   simp only [Option.some.injEq,Prod.mk.injEq] at H
   obtain ⟨rfl,rfl,rfl,rfl⟩:=H
   go_enter Tryz.func22,Tryz.ntmps22
   go_wp2_with (first | ((with_reducible refine gate_dst (N:=4) rfl ?_);(try (refine gate_guard (by rfl) ?_;dsimp only));refine box_event ?hg (N:=4) ?hd (cs:=#[.int .i64 0,.bool false,.int .i64 0]) (t:=30) ?hr ?_;(case hd => rfl);(case hg => rfl);(case hr => exact q153_);intro gb249 hg w15 hbox hb;have n0_:=Aside0.mk (below_step q70_ hb);have n1_:=Aside0.mk (hbox);have n2_:=Aside0.mk ((q46_:w.heap.size ≤ gb249));have n3_:=Aside0.mk ((q46_:w.heap.size ≤ gb249));clear HB;have HB:=n0_;have BK249:=n1_;have GW249:=n2_;have GE249:=n3_;clear n0_ n1_ n2_ n3_;clear hb hbox hg) | ((with_reducible refine gate_callee (f:=61) rfl ?_);refine goesL_ (some 13) rfl rfl Tryz.func61 (by kernel_rfl) rfl #[.int .i64 a1,.int .i64 0,.int .i64 (wrap64 ((a0.size:Int) - 1))] rfl q10_ ?_;(with_reducible refine (impl_within.calls a1 0 (wrap64 ((a0.size:Int) - 1)) true _ A3.out).mono ?_);rintro e w' ⟨rfl,⟨nd,rfl⟩⟩;refine ⟨_,rfl,?_⟩;(try (rw [drewN_self w15];generalize hq_:World.drewN w15 _ = w15;have n0_:Aside0 (w15.heap[gb249]? = some (.cells #[.int .i64 0,.bool false,.int .i64 0] 30 (0,0))):=⟨q66_⟩;have n1_:Aside0 (Below w.heap.size w w15):=⟨q37_⟩;clear BK249 HB hq_;have BK249:=n0_;have HB:=n1_;clear n0_ n1_));have p8:0 ≤ (0:Int):=(by omega);have q8:0 < (a0.extract (a1:Int).toNat a0.size).size:=(by have:(0:Int) < ((a0.extract (a1:Int).toNat a0.size).size:Int):=of_decide_eq_true q119_;omega);have hx8:∀ h:0 < (a0.extract (a1:Int).toNat a0.size).size,(((a0.extract (a1:Int).toNat a0.size)[0]'h).toNat:Int) = bt (a0.extract (a1:Int).toNat a0.size) 0:=bt_at (a0.extract (a1:Int).toNat a0.size) 0;clear p8;have qi8:(0 < ((a0.extract (a1:Int).toNat a0.size).size:Int)) = True:=eq_true (of_decide_eq_true q119_);replace q8:=eq_true q8;have p14:0 ≤ (1:Int):=(by omega);have q14:1 < (a0.extract (a1:Int).toNat a0.size).size:=(by have:(1:Int) < ((a0.extract (a1:Int).toNat a0.size).size:Int):=of_decide_eq_true q119_;omega);have hx14:∀ h:1 < (a0.extract (a1:Int).toNat a0.size).size,(((a0.extract (a1:Int).toNat a0.size)[1]'h).toNat:Int) = bt (a0.extract (a1:Int).toNat a0.size) 1:=bt_at (a0.extract (a1:Int).toNat a0.size) 1;clear p14;have qi14:(1 < ((a0.extract (a1:Int).toNat a0.size).size:Int)) = True:=eq_true (of_decide_eq_true q119_);replace q14:=eq_true q14;have hcz16_0:w15.cell? ⟨gb249,0,none⟩ = some (.int .i64 0):=(blk_cell BK249.out 0).trans rfl;have hcz16_1:w15.cell? ⟨gb249,1,none⟩ = some (.bool false):=(blk_cell BK249.out 1).trans rfl;have hcz16_2:w15.cell? ⟨gb249,2,none⟩ = some (.int .i64 0):=(blk_cell BK249.out 2).trans rfl;have hfz16_0:=blk_frozen BK249.out 0;have hfz16_1:=blk_frozen BK249.out 1;have hfz16_2:=blk_frozen BK249.out 2))
   refine bodyPost_ret (results_ct rfl _ _ gb249 30 #[.int .i64 (wrap64 (bt (a0.extract (a1:Int).toNat a0.size) 1)),.bool true,.int .i64 0] (0,0) _ rfl (by (with_reducible repeat (first | refine blk_drewN ?_ _ | refine blk_drew ?_ | refine blk_alloc ?_ _));refine blk_put (cs:=#[.int .i64 (wrap64 (bt (a0.extract (a1:Int).toNat a0.size) 1)),.bool true,.int .i64 0]) ?_ 2 _ rfl;(with_reducible repeat (first | refine blk_drewN ?_ _ | refine blk_drew ?_ | refine blk_alloc ?_ _));refine blk_put (cs:=#[.int .i64 (wrap64 (bt (a0.extract (a1:Int).toNat a0.size) 1)),.bool false,.int .i64 0]) ?_ 1 _ rfl;(with_reducible repeat (first | refine blk_drewN ?_ _ | refine blk_drew ?_ | refine blk_alloc ?_ _));refine blk_put (cs:=#[.int .i64 0,.bool false,.int .i64 0]) ?_ 0 _ rfl;(with_reducible repeat (first | refine blk_drewN ?_ _ | refine blk_drew ?_ | refine blk_alloc ?_ _));exact BK249.out) Tryz.underlying30 rfl (by kernel_rfl)) rfl ?_
   exact ⟨q75_,q47_⟩
  rw [if_neg c9] at H
  have c9b0:((bt (a0.extract (a1:Int).toNat a0.size) 0) == 203) = false:=beq_eq_false_iff_ne.mpr c9
  have c9b1:((bt (a0.extract (a1:Int).toNat a0.size) 0) != 203) = true:=bne_iff_ne.mpr c9
  replace H:=Option.bind_eq_some_iff.mp H
  obtain ⟨t252,A180,H⟩:=H
  have A18:=Aside0.mk A180
  clear A180
  have HC19:=Aside0.mk H
  clear H
  go_enter Tryz.func22,Tryz.ntmps22
  go_upto_region 10 with (first | ((with_reducible refine gate_dst (N:=4) rfl ?_);(try (refine gate_guard (by rfl) ?_;dsimp only));refine box_event ?hg (N:=4) ?hd (cs:=#[.int .i64 0,.bool false,.int .i64 0]) (t:=30) ?hr ?_;(case hd => rfl);(case hg => rfl);(case hr => exact q153_);intro gb249 hg w20 hbox hb;have n0_:=Aside0.mk (below_step q70_ hb);have n1_:=Aside0.mk (hbox);have n2_:=Aside0.mk ((q46_:w.heap.size ≤ gb249));have n3_:=Aside0.mk ((q46_:w.heap.size ≤ gb249));clear HB;have HB:=n0_;have BK249:=n1_;have GW249:=n2_;have GE249:=n3_;clear n0_ n1_ n2_ n3_;clear hb hbox hg) | ((with_reducible refine gate_callee (f:=61) rfl ?_);refine goesL_ (some 13) rfl rfl Tryz.func61 (by kernel_rfl) rfl #[.int .i64 a1,.int .i64 0,.int .i64 (wrap64 ((a0.size:Int) - 1))] rfl q10_ ?_;(with_reducible refine (impl_within.calls a1 0 (wrap64 ((a0.size:Int) - 1)) true _ A3.out).mono ?_);rintro e w' ⟨rfl,⟨nd,rfl⟩⟩;refine ⟨_,rfl,?_⟩;(try (rw [drewN_self w20];generalize hq_:World.drewN w20 _ = w20;have n0_:Aside0 (w20.heap[gb249]? = some (.cells #[.int .i64 0,.bool false,.int .i64 0] 30 (0,0))):=⟨q66_⟩;have n1_:Aside0 (Below w.heap.size w w20):=⟨q37_⟩;clear BK249 HB hq_;have BK249:=n0_;have HB:=n1_;clear n0_ n1_));have p8:0 ≤ (0:Int):=(by omega);have q8:0 < (a0.extract (a1:Int).toNat a0.size).size:=(by have:(0:Int) < ((a0.extract (a1:Int).toNat a0.size).size:Int):=of_decide_eq_true q119_;omega);have hx8:∀ h:0 < (a0.extract (a1:Int).toNat a0.size).size,(((a0.extract (a1:Int).toNat a0.size)[0]'h).toNat:Int) = bt (a0.extract (a1:Int).toNat a0.size) 0:=bt_at (a0.extract (a1:Int).toNat a0.size) 0;clear p8;have qi8:(0 < ((a0.extract (a1:Int).toNat a0.size).size:Int)) = True:=eq_true (of_decide_eq_true q119_);replace q8:=eq_true q8;have p17:0 ≤ (0:Int):=(by omega);have q17:0 < (a0.extract (a1:Int).toNat a0.size).size:=(by have:(0:Int) < ((a0.extract (a1:Int).toNat a0.size).size:Int):=of_decide_eq_true q119_;omega);have hx17:∀ h:0 < (a0.extract (a1:Int).toNat a0.size).size,(((a0.extract (a1:Int).toNat a0.size)[0]'h).toNat:Int) = bt (a0.extract (a1:Int).toNat a0.size) 0:=bt_at (a0.extract (a1:Int).toNat a0.size) 0;clear p17;have qi17:(0 < ((a0.extract (a1:Int).toNat a0.size).size:Int)) = True:=eq_true (of_decide_eq_true q119_);replace q17:=eq_true q17) | ((with_reducible refine gate_dst (N:=6) rfl ?_);(try (refine gate_guard (by rfl) ?_;dsimp only));refine box_event ?hg (N:=6) ?hd (cs:=#[.int .i64 0,.bool false,.int .i64 0]) (t:=30) ?hr ?_;(case hd => rfl);(case hg => rfl);(case hr => exact q153_);intro gb251 hg w21 hbox hb;have n0_:=Aside0.mk (blk_below (g:=gb249) (o:=.cells #[.int .i64 0,.bool false,.int .i64 0] 30 (0,0)) q76_ hb);have n1_:=Aside0.mk (below_step q47_ hb);have n2_:=Aside0.mk (hbox);have n3_:=Aside0.mk ((q33_:w.heap.size ≤ gb251));have n4_:=Aside0.mk ((q33_:w.heap.size ≤ gb251));have n5_:=Aside0.mk ((by rw [hg];exact Nat.ne_of_lt (blk_lt (g:=gb249) (o:=.cells #[.int .i64 0,.bool false,.int .i64 0] 30 (0,0)) q76_):gb249 ≠ gb251));have n6_:=Aside0.mk ((by rw [hg];exact Nat.ne_of_gt (blk_lt (g:=gb249) (o:=.cells #[.int .i64 0,.bool false,.int .i64 0] 30 (0,0)) q76_):gb251 ≠ gb249));clear BK249;clear HB;have BK249:=n0_;have HB:=n1_;have BK251:=n2_;have GW251:=n3_;have GE251:=n4_;have NB249_251:=n5_;have NB251_249:=n6_;clear n0_ n1_ n2_ n3_ n4_ n5_ n6_;clear hb hbox hg;have hnb22:=NB251_249.out;have hnc22:=NB249_251.out;have hcz23_0:w21.cell? ⟨gb251,0,none⟩ = some (.int .i64 0):=(blk_cell BK251.out 0).trans rfl;have hcz23_1:w21.cell? ⟨gb251,1,none⟩ = some (.bool false):=(blk_cell BK251.out 1).trans rfl;have hcz23_2:w21.cell? ⟨gb251,2,none⟩ = some (.int .i64 0):=(blk_cell BK251.out 2).trans rfl;have hfz23_0:=blk_frozen BK251.out 0;have hfz23_1:=blk_frozen BK251.out 1;have hfz23_2:=blk_frozen BK251.out 2) | ((with_reducible refine gate_callee (f:=13) rfl ?_);refine goesL_ (some 36) rfl rfl Tryz.func13 (by kernel_rfl) rfl #[.int .i64 (wrap64 (bt (a0.extract (a1:Int).toNat a0.size) 0)),.bool false] rfl (by (try simp only [List.map_toArray,List.map_cons,List.map_nil]);first | done | rfl | (simp only [List.length_drop,List.length_take];rfl) | (refine Eq.trans (b:=#[.int .i64 ((bt (a0.extract (a1:Int).toNat a0.size) 0)),.bool false]) rfl ?_;simp [wrap64] <;> omega)) ?_;(with_reducible refine (impl_LengthOf.calls k (wrap64 (bt (a0.extract (a1:Int).toNat a0.size) 0)) false t252 _ A18.out).mono ?_);rintro e w24 ⟨rfl,hb⟩;refine ⟨_,rfl,?_⟩;have n0_:=Aside0.mk (blk_below (g:=gb249) (o:=.cells #[.int .i64 0,.bool false,.int .i64 0] 30 (0,0)) (by (with_reducible repeat (first | refine blk_drewN ?_ _ | refine blk_drew ?_ | refine blk_alloc ?_ _));refine blk_far ?_ NB249_251.out _;(with_reducible repeat (first | refine blk_drewN ?_ _ | refine blk_drew ?_ | refine blk_alloc ?_ _));refine blk_far ?_ NB249_251.out _;(with_reducible repeat (first | refine blk_drewN ?_ _ | refine blk_drew ?_ | refine blk_alloc ?_ _));refine blk_far ?_ NB249_251.out _;(with_reducible repeat (first | refine blk_drewN ?_ _ | refine blk_drew ?_ | refine blk_alloc ?_ _));exact BK249.out) hb);have n1_:=Aside0.mk (blk_below (g:=gb251) (o:=.cells #[.int .i64 (wrap64 (bt (a0.extract (a1:Int).toNat a0.size) 0)),.bool false,.int .i64 0] 30 (0,0)) (by (with_reducible repeat (first | refine blk_drewN ?_ _ | refine blk_drew ?_ | refine blk_alloc ?_ _));refine blk_put (cs:=#[.int .i64 (wrap64 (bt (a0.extract (a1:Int).toNat a0.size) 0)),.bool false,.int .i64 0]) ?_ 2 _ rfl;(with_reducible repeat (first | refine blk_drewN ?_ _ | refine blk_drew ?_ | refine blk_alloc ?_ _));refine blk_put (cs:=#[.int .i64 (wrap64 (bt (a0.extract (a1:Int).toNat a0.size) 0)),.bool false,.int .i64 0]) ?_ 1 _ rfl;(with_reducible repeat (first | refine blk_drewN ?_ _ | refine blk_drew ?_ | refine blk_alloc ?_ _));refine blk_put (cs:=#[.int .i64 0,.bool false,.int .i64 0]) ?_ 0 _ rfl;(with_reducible repeat (first | refine blk_drewN ?_ _ | refine blk_drew ?_ | refine blk_alloc ?_ _));exact BK251.out) hb);have n2_:=Aside0.mk (below_step q35_ hb);clear BK249;clear BK251;clear HB;have BK249:=n0_;have BK251:=n1_;have HB:=n2_;clear n0_ n1_ n2_;(try clear hb)))
  (try simp only [Act.put,List.setIfInBounds_toArray,List.set_cons_zero,List.set_cons_succ])
  go_cut [44] (fun v44 wc => ∃ (kq:Nat) (x44_18:Bool),v44 = .bool x44_18 ∧ Aside0 (impl_ReadIns.j0 kq (a0.extract (a1:Int).toNat a0.size) t252 x44_18 (wrap64 (bt (a0.extract (a1:Int).toNat a0.size) 0)) false 0 = some (r1,r2,r3,r4)) ∧ Aside0 (kq ≤ k) ∧ Aside0 (wc.heap[gb249]? = some (.cells #[.int .i64 0,.bool false,.int .i64 0] 30 (0,0))) ∧ Aside0 (wc.heap[gb251]? = some (.cells #[.int .i64 (wrap64 (bt (a0.extract (a1:Int).toNat a0.size) 0)),.bool false,.int .i64 0] 30 (0,0))) ∧ Aside0 (Below w.heap.size w wc))
  case first =>
   have H:=HC19.out
   clear HC19
   by_cases c25:t252 = 0
   ·rw [if_pos c25] at H
    have c25b0:(t252 == 0) = true:=beq_iff_eq.mpr c25
    have c25b1:(t252 != 0) = false:=bne_eq_false_iff_eq.mpr c25
    clear c25
    (first | rw [c25b0] | (simp only [i64_w,i32_w];rw [c25b0]) | skip)
    have H':=Aside0.mk H
    clear H
    go_wp2
    go_meet
    case rel => exact ⟨_,(true),q94_,H',⟨q132_⟩,⟨q76_⟩,⟨q77_⟩,⟨q35_⟩⟩
   rw [if_neg c25] at H
   have c25b0:(t252 == 0) = false:=beq_eq_false_iff_ne.mpr c25
   have c25b1:(t252 != 0) = true:=bne_iff_ne.mpr c25
   (first | rw [c25b0] | (simp only [i64_w,i32_w];rw [c25b0]) | skip)
   have H':=Aside0.mk H
   clear H
   go_wp2
   go_meet
   case rel => exact ⟨_,(decide (((a0.extract (a1:Int).toNat a0.size).size:Int) < t252)),q94_,H',⟨q132_⟩,⟨q76_⟩,⟨q77_⟩,⟨q35_⟩⟩
  clear HC19
  try clear c1
  try clear p1
  try clear q1
  try clear hx1
  try clear qi1
  try clear c2
  try clear p2
  try clear c4
  try clear c5
  try clear c5b0
  try clear c5b1
  try clear c6
  try clear c6b0
  try clear c6b1
  try clear p6
  try clear c7
  try clear c7b0
  try clear c7b1
  try clear p8 p8
  try clear q8 q8
  try clear hx8
  try clear qi8
  try clear c9
  try clear c9b0
  try clear c9b1
  try clear c10
  try clear c10b0
  try clear c10b1
  try clear c13
  try clear c13b0
  try clear c13b1
  try clear p14 p14
  try clear q14 q14
  try clear hx14
  try clear qi14
  try clear p17 p17
  try clear q17 q17
  try clear hx17
  try clear qi17
  try clear c22
  try clear c25
  try clear c25b0
  try clear c25b1
  try clear hcz12_0 hcz12_1 hcz12_2
  try clear hcz16_0 hcz16_1 hcz16_2
  try clear hcz23_0 hcz23_1 hcz23_2
  try clear hfz12_0 hfz12_1 hfz12_2
  try clear hfz16_0 hfz16_1 hfz16_2
  try clear hfz23_0 hfz23_1 hfz23_2
  obtain ⟨kq,x44_18,rfl,HA,HJ18,BK249,BK251,HB⟩:=hcut
  cases kq with
  | zero => exact absurd HA.out (by simp [impl_ReadIns.j0])
  | succ kj18 =>
   have H:=HA.out
   clear HA
   simp only [impl_ReadIns.j0] at H
   by_cases c26:x44_18 = true
   ·subst c26
    rewrite [if_pos rfl] at H
    simp only [Option.some.injEq,Prod.mk.injEq] at H
    obtain ⟨rfl,rfl,rfl,rfl⟩:=H
    have hnb27:=NB249_251.out
    have hnc27:=NB251_249.out
    have hcz28_0:wc.cell? ⟨gb249,0,none⟩ = some (.int .i64 0):=bz_ BK249 0
    have hcz28_1:wc.cell? ⟨gb249,1,none⟩ = some (.bool false):=bz_ BK249 1
    have hcz28_2:wc.cell? ⟨gb249,2,none⟩ = some (.int .i64 0):=bz_ BK249 2
    have hfz28_0:=blk_frozen BK249.out 0
    have hfz28_1:=blk_frozen BK249.out 1
    have hfz28_2:=blk_frozen BK249.out 2
    go_wp2
    refine bodyPost_ret (results_ct rfl _ _ gb249 30 #[.int .i64 0,.bool false,.int .i64 0] (0,0) _ rfl q2_ Tryz.underlying30 rfl (by kernel_rfl)) rfl ?_
    exact ⟨q75_,q35_⟩
   replace c26:=Bool.eq_false_iff.mpr c26
   subst c26
   rewrite [if_neg (show ¬ (false = true) by decide)] at H
   have H':=Aside0.mk H
   clear H
   go_wp2
   go_loopg [8] kj18 (fun kq v8 w' => ∃ (x8_2:Int) (x252002_2:Int),v8 = .int .i64 x8_2 ∧ Aside0 (impl_ReadIns.l0 kq (a0.extract (a1:Int).toNat a0.size) t252 x8_2 (wrap64 (bt (a0.extract (a1:Int).toNat a0.size) 0)) false x252002_2 = some (r1,r2,r3,r4)) ∧ Aside0 (kq ≤ kj18) ∧ Aside0 (w'.heap[gb249]? = some (.cells #[.int .i64 0,.bool false,.int .i64 0] 30 (0,0))) ∧ Aside0 (w'.heap[gb251]? = some (.cells #[.int .i64 (wrap64 (bt (a0.extract (a1:Int).toNat a0.size) 0)),.bool false,.int .i64 x252002_2] 30 (0,0))) ∧ Aside0 (Below w.heap.size w w'))
   case atStart => exact ⟨(wrap64 (t252 - 1)),(0),q94_,H',⟨Nat.le_refl _⟩,⟨q76_⟩,⟨q77_⟩,⟨q35_⟩⟩
   clear H'
   try clear c1
   try clear p1 p1
   try clear q1 q1
   try clear hx1
   try clear qi1
   try clear c2
   try clear p2 p2
   try clear c4
   try clear c5
   try clear c5b0
   try clear c5b1
   try clear c6
   try clear c6b0
   try clear c6b1
   try clear p6 p6
   try clear c7
   try clear c7b0
   try clear c7b1
   try clear p8 p8
   try clear q8 q8
   try clear hx8
   try clear qi8
   try clear c9
   try clear c9b0
   try clear c9b1
   try clear c10
   try clear c10b0
   try clear c10b1
   try clear c13
   try clear c13b0
   try clear c13b1
   try clear p14 p14
   try clear q14 q14
   try clear hx14
   try clear qi14
   try clear p17 p17
   try clear q17 q17
   try clear hx17
   try clear qi17
   try clear c22
   try clear c25
   try clear c25b0
   try clear c25b1
   try clear c26
   try clear c27
   try clear hcz12_0 hcz12_1 hcz12_2
   try clear hcz16_0 hcz16_1 hcz16_2
   try clear hcz23_0 hcz23_1 hcz23_2
   try clear hcz28_0 hcz28_1 hcz28_2
   try clear hfz12_0 hfz12_1 hfz12_2
   try clear hfz16_0 hfz16_1 hfz16_2
   try clear hfz23_0 hfz23_1 hfz23_2
   try clear hfz28_0 hfz28_1 hfz28_2
   obtain ⟨x8_2,x252002_2,rfl,HA,HK2,BK249,BK251,HB⟩:=hrel
   cases gk with
   | zero => exact absurd HA.out (by simp [impl_ReadIns.l0])
   | succ k2 =>
    have H:=HA.out
    clear HA
    simp only [impl_ReadIns.l0] at H
    by_cases c29:x8_2 > 0
    ·rw [if_pos c29] at H
     have c29b0:decide (0 < x8_2) = true:=decide_eq_true c29
     clear c29
     by_cases c30:0 ≤ x8_2
     rotate_left
     ·rw [if_neg c30] at H
      exact absurd H (by simp)
     rw [if_pos c30] at H
     have c30b0:=decide_eq_true c30
     clear c30
     by_cases c31:x8_2 < ((a0.extract (a1:Int).toNat a0.size).size:Int)
     rotate_left
     ·rw [if_neg c31] at H
      exact absurd H (by simp)
     rw [if_pos c31] at H
     have c31b0:=decide_eq_true c31
     (try (have c31b0e:=c31b0;simp only [ByteArray.size_append,ByteArray.size_extract,Nat.min_self,Nat.sub_zero] at c31b0e))
     (try (first | (have c31b0p:=eq_true (of_decide_eq_true c31b0e)) | (have c31b0p:=eq_false (of_decide_eq_false c31b0e))))
     clear c31
     have H':=Aside0.mk H
     clear H
     try go_wp2
     have n0_:=Aside0.mk (blk_drew BK249.out)
     have n1_:=Aside0.mk (blk_drew BK251.out)
     have n2_:=Aside0.mk (below_drew1 HB.out)
     clear BK249
     clear BK251
     clear HB
     have BK249:=n0_
     have BK251:=n1_
     have HB:=n2_
     clear n0_ n1_ n2_
     have p32:0 ≤ (x8_2:Int):=of_decide_eq_true q119_
     have q32:x8_2 < ((a0.extract (a1:Int).toNat a0.size).size:Int):=of_decide_eq_true q119_
     have hx32:=bt_at (a0.extract (a1:Int).toNat a0.size) x8_2
     replace p32:=eq_true p32
     replace q32:=eq_true q32
     refine start_ (n:=10) (S:=fun w' => w'.cell? ⟨gb251,0,none⟩ = some (.int .i64 (wrap64 (bt (a0.extract (a1:Int).toNat a0.size) 0))) ∧ w'.cell? ⟨gb251,1,none⟩ = some (.bool false) ∧ w'.cell? ⟨gb251,2,none⟩ = some (.int .i64 x252002_2)) (ds:=[9]) #[false,false,false,false,false,false,false,false,false,false] (by kernel_rfl) rfl rfl ⟨(blk_cell BK251.out 0).trans rfl,(blk_cell BK251.out 1).trans rfl,(blk_cell BK251.out 2).trans rfl⟩ (fun hHeld => ?_);refine with_tabW impl_ReadIns.tab15 impl_ReadIns.bits15 (fun HT_ HW_ => ?_)
     generalize wr.drew = w33 at BK249 BK251 HB hHeld ⊢
     refine pure_ (i:=0) (N:=some 52) (v:=?_) (a':=?_) #[true,false,false,false,false,false,false,false,false,false] rfl rfl (any_of HT_.out (by kernel_rfl)) (fun _ _ _ h => h) (Or.inl ⟨by rfl,?_⟩) ?_ ?_
     rotate_left
     ·intro w'
      go_simp
      with_reducible rfl
     rotate_left
     ·simp only [Act.put,List.setIfInBounds_toArray,List.set_cons_zero,List.set_cons_succ,i64_w,i32_w]
      rfl
     refine pure_ (i:=3) (N:=some 55) (v:=?_) (a':=?_) #[true,false,false,true,false,false,false,false,false,false] rfl rfl (any_of HT_.out (by kernel_rfl)) (fun _ _ _ h => h) (Or.inl ⟨by rfl,?_⟩) ?_ ?_
     rotate_left
     ·intro w'
      go_simp
      with_reducible rfl
     rotate_left
     ·simp only [Act.put,List.setIfInBounds_toArray,List.set_cons_zero,List.set_cons_succ,i64_w,i32_w]
      rfl
     refine pure_ (i:=4) (N:=some 56) (v:=?_) (a':=?_) #[true,false,false,true,true,false,false,false,false,false] rfl rfl (any_of HT_.out (by kernel_rfl)) (fun _ _ _ h => h) (Or.inl ⟨by rfl,?_⟩) ?_ ?_
     rotate_left
     ·intro w'
      go_simp
      with_reducible rfl
     rotate_left
     ·simp only [Act.put,List.setIfInBounds_toArray,List.set_cons_zero,List.set_cons_succ,i64_w,i32_w]
      rfl
     refine take_ (i:=1) (N:=some 53) (v:=?_) (a':=?_) #[true,true,false,true,true,false,false,false,false,false] rfl rfl (take_ofW HT_.out HW_.out (by kernel_rfl)) (fun _ _ _ h => h) (Or.inl ⟨by rfl,?_⟩) hHeld ?_ ?_
     rotate_left
     ·rintro w' ⟨s0,s1,s2⟩
      go_simp
      with_reducible rfl
     rotate_left
     ·simp only [Act.put,List.setIfInBounds_toArray,List.set_cons_zero,List.set_cons_succ,i64_w,i32_w]
      rfl
     refine pure_ (i:=2) (N:=some 54) (v:=?_) (a':=?_) #[true,true,true,true,true,false,false,false,false,false] rfl rfl (any_of HT_.out (by kernel_rfl)) (fun _ _ _ h => h) (Or.inl ⟨by rfl,?_⟩) ?_ ?_
     rotate_left
     ·intro w'
      go_simp
      with_reducible rfl
     rotate_left
     ·simp only [Act.put,List.setIfInBounds_toArray,List.set_cons_zero,List.set_cons_succ,i64_w,i32_w]
      rfl
     refine take_ (i:=5) (N:=some 57) (v:=?_) (a':=?_) #[true,true,true,true,true,true,false,false,false,false] rfl rfl (take_ofW HT_.out HW_.out (by kernel_rfl)) (fun _ _ _ h => h) (Or.inl ⟨by rfl,?_⟩) hHeld ?_ ?_
     rotate_left
     ·rintro w' ⟨s0,s1,s2⟩
      go_simp
      with_reducible rfl
     rotate_left
     ·simp only [Act.put,List.setIfInBounds_toArray,List.set_cons_zero,List.set_cons_succ,i64_w,i32_w]
      rfl
     refine pure_ (i:=6) (N:=some 58) (v:=?_) (a':=?_) #[true,true,true,true,true,true,true,false,false,false] rfl rfl (any_of HT_.out (by kernel_rfl)) (fun _ _ _ h => h) (Or.inl ⟨by rfl,?_⟩) ?_ ?_
     rotate_left
     ·intro w'
      go_simp
      with_reducible rfl
     rotate_left
     ·simp only [Act.put,List.setIfInBounds_toArray,List.set_cons_zero,List.set_cons_succ,i64_w,i32_w]
      rfl
     refine pure_ (i:=7) (N:=some 59) (v:=?_) (a':=?_) #[true,true,true,true,true,true,true,true,false,false] rfl rfl (any_of HT_.out (by kernel_rfl)) (fun _ _ _ h => h) (Or.inl ⟨by rfl,?_⟩) ?_ ?_
     rotate_left
     ·intro w'
      go_simp
      with_reducible rfl
     rotate_left
     ·simp only [Act.put,List.setIfInBounds_toArray,List.set_cons_zero,List.set_cons_succ,i64_w,i32_w]
      rfl
     refine pure_ (i:=8) (N:=some 60) (v:=?_) (a':=?_) #[true,true,true,true,true,true,true,true,true,false] rfl rfl (any_of HT_.out (by kernel_rfl)) (fun _ _ _ h => h) (Or.inl ⟨by rfl,?_⟩) ?_ ?_
     rotate_left
     ·intro w'
      go_simp
      with_reducible rfl
     rotate_left
     ·simp only [Act.put,List.setIfInBounds_toArray,List.set_cons_zero,List.set_cons_succ,i64_w,i32_w]
      rfl
     refine last_ (i:=9) (N:=none) #[true,true,true,true,true,true,true,true,true,true] rfl rfl (one_of HT_.out (by kernel_rfl)) (by decide) (fun K hK => ?_)
     have hs34:w33.cell? ⟨gb251,2,none⟩ = some (.int .i64 x252002_2):=bz_ BK251 2
     have hfs34:=blk_frozen BK251.out 2
     have hns34_0:=NB249_251.out
     have hms34_0:=NB251_249.out
     refine skip_ (w1:=?_) (by rfl) rfl ?_ ?_
     rotate_left
     ·go_simp
      rfl
     refine hK.out _ _ ?_
     clear hK K
     refine done_ (done_of HT_.out (by kernel_rfl)) ?_
     try go_wp2
     go_roundg k2
     case measure => have:=HJ18.out;have:=HK2.out;omega
     case rel => exact ⟨(wrap64 (x8_2 - 1)),(Go.bits .or .i64 (wrap64 (x252002_2 * 256)) (wrap64 (bt (a0.extract (a1:Int).toNat a0.size) x8_2))),q94_,H',⟨by have:=HJ18.out;have:=HK2.out;omega⟩,⟨by (with_reducible repeat (first | refine blk_drewN ?_ _ | refine blk_drew ?_ | refine blk_alloc ?_ _));refine blk_far ?_ NB249_251.out _;(with_reducible repeat (first | refine blk_drewN ?_ _ | refine blk_drew ?_ | refine blk_alloc ?_ _));exact BK249.out⟩,⟨by (with_reducible repeat (first | refine blk_drewN ?_ _ | refine blk_drew ?_ | refine blk_alloc ?_ _));refine blk_put (cs:=#[.int .i64 (wrap64 (bt (a0.extract (a1:Int).toNat a0.size) 0)),.bool false,.int .i64 x252002_2]) ?_ 2 _ rfl;(with_reducible repeat (first | refine blk_drewN ?_ _ | refine blk_drew ?_ | refine blk_alloc ?_ _));exact BK251.out⟩,⟨q35_⟩⟩
    rw [if_neg c29] at H
    have c29b0:decide (0 < x8_2) = false:=decide_eq_false c29
    clear c29
    simp only [Option.some.injEq,Prod.mk.injEq] at H
    obtain ⟨rfl,rfl,rfl,rfl⟩:=H
    have hnb35:=NB251_249.out
    have hnc35:=NB249_251.out
    have hcz36_0:wr.cell? ⟨gb251,0,none⟩ = some (.int .i64 (wrap64 (bt (a0.extract (a1:Int).toNat a0.size) 0))):=bz_ BK251 0
    have hcz36_1:wr.cell? ⟨gb251,1,none⟩ = some (.bool false):=bz_ BK251 1
    have hcz36_2:wr.cell? ⟨gb251,2,none⟩ = some (.int .i64 x252002_2):=bz_ BK251 2
    have hfz36_0:=blk_frozen BK251.out 0
    have hfz36_1:=blk_frozen BK251.out 1
    have hfz36_2:=blk_frozen BK251.out 2
    have hcz37_0:wr.cell? ⟨gb249,0,none⟩ = some (.int .i64 0):=bz_ BK249 0
    have hcz37_1:wr.cell? ⟨gb249,1,none⟩ = some (.bool false):=bz_ BK249 1
    have hcz37_2:wr.cell? ⟨gb249,2,none⟩ = some (.int .i64 0):=bz_ BK249 2
    have hfz37_0:=blk_frozen BK249.out 0
    have hfz37_1:=blk_frozen BK249.out 1
    have hfz37_2:=blk_frozen BK249.out 2
    go_wp2
    refine bodyPost_ret (results_ct rfl _ _ gb249 30 #[.int .i64 (wrap64 (bt (a0.extract (a1:Int).toNat a0.size) 0)),.bool false,.int .i64 x252002_2] (0,0) _ rfl (by (with_reducible repeat (first | refine blk_drewN ?_ _ | refine blk_drew ?_ | refine blk_alloc ?_ _));refine blk_put (cs:=#[.int .i64 (wrap64 (bt (a0.extract (a1:Int).toNat a0.size) 0)),.bool false,.int .i64 0]) ?_ 2 _ rfl;(with_reducible repeat (first | refine blk_drewN ?_ _ | refine blk_drew ?_ | refine blk_alloc ?_ _));refine blk_put (cs:=#[.int .i64 (wrap64 (bt (a0.extract (a1:Int).toNat a0.size) 0)),.bool false,.int .i64 0]) ?_ 1 _ rfl;(with_reducible repeat (first | refine blk_drewN ?_ _ | refine blk_drew ?_ | refine blk_alloc ?_ _));refine blk_put (cs:=#[.int .i64 0,.bool false,.int .i64 0]) ?_ 0 _ rfl;(with_reducible repeat (first | refine blk_drewN ?_ _ | refine blk_drew ?_ | refine blk_alloc ?_ _));exact BK249.out) Tryz.underlying30 rfl (by kernel_rfl)) rfl ?_
    exact ⟨q75_,q35_⟩
 replace c4:=Bool.eq_false_iff.mpr c4
 subst c4
 rewrite [if_neg (show ¬ (false = true) by decide)] at H
 simp only [Option.some.injEq,Prod.mk.injEq] at H
 obtain ⟨rfl,rfl,rfl,rfl⟩:=H
 go_enter Tryz.func22,Tryz.ntmps22
 go_wp2_with (first | ((with_reducible refine gate_dst (N:=4) rfl ?_);(try (refine gate_guard (by rfl) ?_;dsimp only));refine box_event ?hg (N:=4) ?hd (cs:=#[.int .i64 0,.bool false,.int .i64 0]) (t:=30) ?hr ?_;(case hd => rfl);(case hg => rfl);(case hr => exact q153_);intro gb249 hg w38 hbox hb;have n0_:=Aside0.mk (below_step q70_ hb);have n1_:=Aside0.mk (hbox);have n2_:=Aside0.mk ((q46_:w.heap.size ≤ gb249));have n3_:=Aside0.mk ((q46_:w.heap.size ≤ gb249));clear HB;have HB:=n0_;have BK249:=n1_;have GW249:=n2_;have GE249:=n3_;clear n0_ n1_ n2_ n3_;clear hb hbox hg) | ((with_reducible refine gate_callee (f:=61) rfl ?_);refine goesL_ (some 13) rfl rfl Tryz.func61 (by kernel_rfl) rfl #[.int .i64 a1,.int .i64 0,.int .i64 (wrap64 ((a0.size:Int) - 1))] rfl q10_ ?_;(with_reducible refine (impl_within.calls a1 0 (wrap64 ((a0.size:Int) - 1)) false _ A3.out).mono ?_);rintro e w' ⟨rfl,⟨nd,rfl⟩⟩;refine ⟨_,rfl,?_⟩;(try (rw [drewN_self w38];generalize hq_:World.drewN w38 _ = w38;have n0_:Aside0 (w38.heap[gb249]? = some (.cells #[.int .i64 0,.bool false,.int .i64 0] 30 (0,0))):=⟨q66_⟩;have n1_:Aside0 (Below w.heap.size w w38):=⟨q37_⟩;clear BK249 HB hq_;have BK249:=n0_;have HB:=n1_;clear n0_ n1_));have hcz39_0:w38.cell? ⟨gb249,0,none⟩ = some (.int .i64 0):=(blk_cell BK249.out 0).trans rfl;have hcz39_1:w38.cell? ⟨gb249,1,none⟩ = some (.bool false):=(blk_cell BK249.out 1).trans rfl;have hcz39_2:w38.cell? ⟨gb249,2,none⟩ = some (.int .i64 0):=(blk_cell BK249.out 2).trans rfl;have hfz39_0:=blk_frozen BK249.out 0;have hfz39_1:=blk_frozen BK249.out 1;have hfz39_2:=blk_frozen BK249.out 2))
 refine bodyPost_ret (results_ct rfl _ _ gb249 30 #[.int .i64 0,.bool false,.int .i64 0] (0,0) _ rfl q2_ Tryz.underlying30 rfl (by kernel_rfl)) rfl ?_
 exact ⟨q75_,q47_⟩
end Go.Proofs.YtodlnnoekccmmaaGreatDoor.QFnMarks
