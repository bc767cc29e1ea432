/- The machine's side of a law,written by a program of this session for this claim. -/
import Derived.Test.YtodlnnoekccmmaaGreatDoorMQq
import Derived.Test.YtodlnnoekccmmaaGreatDoorMQFnExactMarksOfx0
import Derived.Test.YtodlnnoekccmmaaGreatDoorMQFnExactMarksOfx7
import Derived.Test.YtodlnnoekccmmaaGreatDoorMQFnExactMarksOfx8
import Derived.Test.YtodlnnoekccmmaaGreatDoorMQFnExactMarksOfx16
namespace Go.Proofs.YtodlnnoekccmmaaGreatDoor.QFnExactMarksOf
open Go.Proofs.YtodlnnoekccmmaaGreatDoor.Qq
open Go.RowKit Go.Proofs.YtodlnnoekccmmaaGreatDoor.LibX Go.Proofs.YtodlnnoekccmmaaGreatDoor.LibE Go.Proofs.YtodlnnoekccmmaaGreatDoor.LibCB Go.Proofs.YtodlnnoekccmmaaGreatDoorW.PrintWords Go.Proofs.YtodlnnoekccmmaaGreatDoorW.PrintLast Go.Proofs.YtodlnnoekccmmaaGreatDoorW.PrintMore
attribute [local go_sem] max2_int min2_int max_two min_two max_three min_three max_four min_four   -- for this text's walks alone
set_option maxHeartbeats 8000000
set_option maxRecDepth 100000
set_option linter.unusedVariables false
set_option linter.unusedSimpArgs false
def laws_eqInt64S.l0:Nat → List Int → List Int → Int → Option (Bool)
 | 0,_,_,_ => none
 | k + 1,x0,x1,x5 => if x5 < (x0.length:Int) then (if 0 ≤ x5 then (if x5 < (x1.length:Int) then (if (rd x0 x5) = (rd x1 x5) then (laws_eqInt64S.l0 k x0 x1 (wrap64 (x5 + 1))) else (some false)) else (none)) else (none)) else (some true)
def laws_eqInt64S.f (k:Nat) (l0:List Int) (l1:List Int):Option (Bool):=if (l0.length:Int) = (l1.length:Int) then (laws_eqInt64S.l0 k l0 l1 0) else (some false)
theorem laws_eqInt64S.mono_l:∀ k,(∀ y0 y1 y2,LeO (laws_eqInt64S.l0 k y0 y1 y2) (laws_eqInt64S.l0 (k + 1) y0 y1 y2))
 | 0 => fun _ _ _ r h => by simp [laws_eqInt64S.l0] at h
 | k + 1 => by
  have ih0:=laws_eqInt64S.mono_l k
  intro y0 y1 y2
  unfold laws_eqInt64S.l0
  repeat' first
  | (with_reducible first | exact ih0 _ _ _ | exact LeO.refl _ | exact LeO.none _ | refine LeO.ite ?_ ?_ | refine LeO.bind ?_ (fun _ => ?_))
  | exact ih0 _ _ _
  | exact LeO.none _
  | refine LeO.ite ?_ ?_
  | refine LeO.bind ?_ (fun _ => ?_)
theorem laws_eqInt64S.mono:∀ a0 a1 k,LeO (laws_eqInt64S.f k a0 a1) (laws_eqInt64S.f (k + 1) a0 a1):=by
 intro a0 a1 k
 have ih0:=laws_eqInt64S.mono_l k
 unfold laws_eqInt64S.f
 repeat' first
   | (with_reducible first | exact ih0 _ _ _ | exact LeO.refl _ | exact LeO.none _ | refine LeO.ite ?_ ?_ | refine LeO.bind ?_ (fun _ => ?_))
   | exact ih0 _ _ _
   | exact LeO.none _
   | refine LeO.ite ?_ ?_
   | refine LeO.bind ?_ (fun _ => ?_)
theorem laws_eqInt64S.calls (k:Nat) (A0:Option Addr) (c0:Nat) (l0:List Int) (A1:Option Addr) (c1:Nat) (l1:List Int) (r:Bool) (w:World) (hr0:Kd.C (Kd.int .i64) w A0 l0.length l0) (hc0:l0.length ≤ c0) (hr1:Kd.C (Kd.int .i64) w A1 l1.length l1) (hc1:l1.length ≤ c1) (h:laws_eqInt64S.f k l0 l1 = some r) :
  Calls Tryz.prog 34 #[.slice A0 l0.length c0,.slice A1 l1.length c1] w fun e w' => e = .returned (.bool r) ∧ Drawn0 w w':=by
 have HR0:=Aside0.mk hr0
 have HC0:=Aside0.mk hc0
 clear hr0 hc0
 have HR1:=Aside0.mk hr1
 have HC1:=Aside0.mk hc1
 clear hr1 hc1
 have H:(if (l0.length:Int) = (l1.length:Int) then (laws_eqInt64S.l0 k l0 l1 0) else (some false)) = some r:=h
 clear h
 by_cases c3:(l0.length:Int) = (l1.length:Int)
 ·rw [if_pos c3] at H
  have c3b0:((l0.length:Int) == (l1.length:Int)) = true:=beq_iff_eq.mpr c3
  have c3b1:((l0.length:Int) != (l1.length:Int)) = false:=bne_eq_false_iff_eq.mpr c3
  have c3b2:(l0.length == l1.length) = true:=by first | simpa using c3 | (simp at c3 ⊢;omega)
  clear c3
  have H':=Aside0.mk H
  clear H
  go_enter Tryz.func34,Tryz.ntmps34
  go_wp2
  repeat (go_quiet (fail);try go_wp2)
  go_loopg [5] k (fun kq v5 w' => ∃ (x5_1:Int),v5 = .int .i64 x5_1 ∧ Aside0 (laws_eqInt64S.l0 kq l0 l1 x5_1 = some r) ∧ Aside0 (kq ≤ k) ∧ Drawn0 w w')
  case atStart => exact ⟨(0),q58_,H',⟨Nat.le_refl _⟩,q81_⟩
  clear H'
  try clear c1
  try clear p2
  try clear c3
  try clear c3b0
  try clear c3b1
  try clear c3b2
  obtain ⟨x5_1,rfl,HA,HK1,⟨m1,rfl⟩⟩:=hrel
  cases gk with
  | zero => exact absurd HA.out (by simp [laws_eqInt64S.l0])
  | succ k1 =>
   have H:=HA.out
   clear HA
   simp only [laws_eqInt64S.l0] at H
   by_cases c4:x5_1 < (l0.length:Int)
   ·rw [if_pos c4] at H
    have c4b0:decide (x5_1 < (l0.length:Int)) = true:=decide_eq_true c4
    clear c4
    by_cases c5:0 ≤ x5_1
    rotate_left
    ·rw [if_neg c5] at H
     exact absurd H (by simp)
    rw [if_pos c5] at H
    have c5b0:decide (0 ≤ x5_1) = true:=decide_eq_true c5
    clear c5
    by_cases c6:x5_1 < (l1.length:Int)
    rotate_left
    ·rw [if_neg c6] at H
     exact absurd H (by simp)
    rw [if_pos c6] at H
    have c6b0:decide (x5_1 < (l1.length:Int)) = true:=decide_eq_true c6
    clear c6
    by_cases c7:(rd l0 x5_1) = (rd l1 x5_1)
    ·rw [if_pos c7] at H
     have c7b0:((rd l0 x5_1) == (rd l1 x5_1)) = true:=beq_iff_eq.mpr c7
     have c7b1:((rd l0 x5_1) != (rd l1 x5_1)) = false:=bne_eq_false_iff_eq.mpr c7
     clear c7
     have H':=Aside0.mk H
     clear H
     have p539:0 ≤ (x5_1:Int):=of_decide_eq_true q83_
     have q539:x5_1 < (l0.length:Int):=of_decide_eq_true q83_
     obtain ⟨ad539,e539,hx539_0⟩:=Kd.at_int HR0.out x5_1 p539 q539
     cases e539
     replace p539:=eq_true p539
     replace q539:=eq_true q539
     have p540:0 ≤ (x5_1:Int):=of_decide_eq_true q83_
     have q540:x5_1 < (l1.length:Int):=of_decide_eq_true q83_
     obtain ⟨ad540,e540,hx540_0⟩:=Kd.at_int HR1.out x5_1 p540 q540
     cases e540
     replace p540:=eq_true p540
     replace q540:=eq_true q540
     go_wp2
     repeat (go_quiet (fail);try go_wp2)
     go_roundg k1
     case measure => have:=HK1.out;omega
     case rel => exact ⟨(wrap64 (x5_1 + 1)),q58_,H',⟨by have:=HK1.out;omega⟩,q81_⟩
    rw [if_neg c7] at H
    have c7b0:((rd l0 x5_1) == (rd l1 x5_1)) = false:=beq_eq_false_iff_ne.mpr c7
    have c7b1:((rd l0 x5_1) != (rd l1 x5_1)) = true:=bne_iff_ne.mpr c7
    obtain rfl:=Option.some.inj H
    have p539:0 ≤ (x5_1:Int):=of_decide_eq_true q83_
    have q539:x5_1 < (l0.length:Int):=of_decide_eq_true q83_
    obtain ⟨ad539,e539,hx539_0⟩:=Kd.at_int HR0.out x5_1 p539 q539
    cases e539
    replace p539:=eq_true p539
    replace q539:=eq_true q539
    have p540:0 ≤ (x5_1:Int):=of_decide_eq_true q83_
    have q540:x5_1 < (l1.length:Int):=of_decide_eq_true q83_
    obtain ⟨ad540,e540,hx540_0⟩:=Kd.at_int HR1.out x5_1 p540 q540
    cases e540
    replace p540:=eq_true p540
    replace q540:=eq_true q540
    go_wp2
    repeat (go_quiet (fail);try go_wp2)
    go_ret
    exact ⟨q58_,q81_⟩
   rw [if_neg c4] at H
   have c4b0:decide (x5_1 < (l0.length:Int)) = false:=decide_eq_false c4
   clear c4
   obtain rfl:=Option.some.inj H
   go_wp2
   repeat (go_quiet (fail);try go_wp2)
   go_ret
   exact ⟨q58_,q81_⟩
 rw [if_neg c3] at H
 have c3b0:((l0.length:Int) == (l1.length:Int)) = false:=beq_eq_false_iff_ne.mpr c3
 have c3b1:((l0.length:Int) != (l1.length:Int)) = true:=bne_iff_ne.mpr c3
 have c3b2:(l0.length == l1.length) = false:=by first | simpa using c3 | (simp at c3 ⊢;omega)
 obtain rfl:=Option.some.inj H
 go_enter Tryz.func34,Tryz.ntmps34
 go_wp2
 repeat (go_quiet (fail);try go_wp2)
 go_ret
 exact ⟨q58_,q81_⟩
def laws_FnExactMarksOf.f (k:Nat) (a0:ByteArray) (l1:List Int):Option (Bool):=if (a0.size:Int) > 1048576 then (some true) else (if (l1.length:Int) > 1048576 then (some true) else ((laws_toInt64S.f k l1).bind fun t541 => ((spec_MarksOf.f k a0 t541).bind fun t544 => ((laws_toInt64S.f k l1).bind fun t545 => ((impl_MarksOf.f k a0 t545).bind fun t548 => (if t548.toList = t544.toList then ((laws_toInt64S.f k l1).bind fun t549 => ((laws_eqInt64S.f k t545 t549).bind fun t552 => (if t552 = true then (some true) else (some false)))) else (some false)))))))
theorem laws_FnExactMarksOf.mono:∀ a0 a1 k,LeO (laws_FnExactMarksOf.f k a0 a1) (laws_FnExactMarksOf.f (k + 1) a0 a1):=by
 intro a0 a1 k
 unfold laws_FnExactMarksOf.f
 repeat' first
   | (with_reducible first | exact impl_MarksOf.mono _ _ _ | exact laws_eqInt64S.mono _ _ _ | exact laws_toInt64S.mono _ _ | exact spec_MarksOf.mono _ _ _ | exact LeO.refl _ | exact LeO.none _ | refine LeO.ite ?_ ?_ | refine LeO.bind ?_ (fun _ => ?_))
   | exact impl_MarksOf.mono _ _ _
   | exact laws_eqInt64S.mono _ _ _
   | exact laws_toInt64S.mono _ _
   | exact spec_MarksOf.mono _ _ _
   | exact LeO.none _
   | refine LeO.ite ?_ ?_
   | refine LeO.bind ?_ (fun _ => ?_)
theorem laws_FnExactMarksOf.calls (k:Nat) (a0:ByteArray) (A1:Option Addr) (c1:Nat) (l1:List Int) (r:Bool) (w:World) (hr1:Kd.C (Kd.int .i64) w A1 l1.length l1) (hc1:l1.length ≤ c1) (h:laws_FnExactMarksOf.f k a0 l1 = some r) (hG:Go.Proofs.YtodlnnoekccmmaaGreatDoor.LibW.GL w:=by first | exact hG | exact hG.below q2_ | exact hG.drewN _) :
  Calls Tryz.prog 7 #[.string a0,.slice A1 l1.length c1] w fun e w' => e = .returned (.bool r) ∧ Below w.heap.size w w':=by
 have HR1:=Aside0.mk hr1
 have HC1:=Aside0.mk hc1
 clear hr1 hc1
 have HB:=Aside0.mk (Below.refl w.heap.size w)
 have H:(if (a0.size:Int) > 1048576 then (some true) else (if (l1.length:Int) > 1048576 then (some true) else ((laws_toInt64S.f k l1).bind fun t541 => ((spec_MarksOf.f k a0 t541).bind fun t544 => ((laws_toInt64S.f k l1).bind fun t545 => ((impl_MarksOf.f k a0 t545).bind fun t548 => (if t548.toList = t544.toList then ((laws_toInt64S.f k l1).bind fun t549 => ((laws_eqInt64S.f k t545 t549).bind fun t552 => (if t552 = true then (some true) else (some false)))) else (some false)))))))) = some r:=h
 clear h
 by_cases c3:(a0.size:Int) > 1048576
 ·rw [if_pos c3] at H
  have c3b0:decide (1048576 < (a0.size:Int)) = true:=decide_eq_true c3
  have c3b1:decide (1048576 < a0.size) = true:=decide_eq_true (by omega)
  clear c3
  obtain rfl:=Option.some.inj H
  go_enter Tryz.func7,Tryz.ntmps7
  go_wp2
  go_ret
  exact ⟨q47_,q42_⟩
 rw [if_neg c3] at H
 have c3b0:decide (1048576 < (a0.size:Int)) = false:=decide_eq_false c3
 have c3b1:decide (1048576 < a0.size) = false:=decide_eq_false (by omega)
 clear c3
 by_cases c4:(l1.length:Int) > 1048576
 ·rw [if_pos c4] at H
  have c4b0:decide (1048576 < (l1.length:Int)) = true:=decide_eq_true c4
  have c4b1:decide (1048576 < l1.length) = true:=decide_eq_true (by omega)
  clear c4
  obtain rfl:=Option.some.inj H
  go_enter Tryz.func7,Tryz.ntmps7
  go_wp2
  go_ret
  exact ⟨q47_,q42_⟩
 rw [if_neg c4] at H
 have c4b0:decide (1048576 < (l1.length:Int)) = false:=decide_eq_false c4
 have c4b1:decide (1048576 < l1.length) = false:=decide_eq_false (by omega)
 clear c4
 replace H:=Option.bind_eq_some_iff.mp H
 obtain ⟨t541,A50,H⟩:=H
 have A5:=Aside0.mk A50
 clear A50
 replace H:=Option.bind_eq_some_iff.mp H
 obtain ⟨t544,A60,H⟩:=H
 have A6:=Aside0.mk A60
 clear A60
 replace H:=Option.bind_eq_some_iff.mp H
 obtain ⟨t545,A70,H⟩:=H
 have A7:=Aside0.mk A70
 clear A70
 replace H:=Option.bind_eq_some_iff.mp H
 obtain ⟨t548,A80,H⟩:=H
 have A8:=Aside0.mk A80
 clear A80
 by_cases c9:t548.toList = t544.toList
 ·rw [if_pos c9] at H
  have c9b0:(t548.toList == t544.toList) = true:=beq_iff_eq.mpr c9
  have c9b1:(t548.toList != t544.toList) = false:=bne_eq_false_iff_eq.mpr c9
  clear c9
  replace H:=Option.bind_eq_some_iff.mp H
  obtain ⟨t549,A100,H⟩:=H
  have A10:=Aside0.mk A100
  clear A100
  replace H:=Option.bind_eq_some_iff.mp H
  obtain ⟨t552,A110,H⟩:=H
  have A11:=Aside0.mk A110
  clear A110
  by_cases c12:t552 = true
  ·subst c12
   replace H:(some true) = some r:=by rw [if_pos rfl] at H;exact H
   obtain rfl:=Option.some.inj H
   go_enter Tryz.func7,Tryz.ntmps7
   go_wp2_with (first | ((with_reducible refine gate_callee (f:=32) rfl ?_);refine goesL_ (some 16) rfl rfl Tryz.func32 (by kernel_rfl) rfl #[.slice A1 l1.length c1] rfl q40_ ?_;(with_reducible refine (laws_toInt64S.calls k _ _ l1 t541 _ ?side1 ?side2 A5.out).mono ?_);(case side1 => exact q107_);(case side2 => exact HC1.out);rintro e w13 ⟨v542,rfl,ho0,hb⟩;refine ⟨_,rfl,?_⟩;have n0_:=Aside0.mk (Kd.R_lower ho0 (below_size q42_));have n1_:=Aside0.mk (below_step q42_ hb);clear HB;have HO543:=n0_;have HB:=n1_;clear n0_ n1_;(try clear hb);(try clear ho0);obtain ⟨Ao14,co14,eo14⟩:=Kd.R_slice HO543.out;subst eo14) | ((with_reducible refine gate_callee (f:=31) rfl ?_);refine goesL_ (some 17) rfl rfl Tryz.func31 (by kernel_rfl) rfl #[.string a0,.slice Ao14 t541.length co14] rfl q40_ ?_;(with_reducible refine (spec_MarksOf.calls k a0 _ _ t541 t544 _ ?side1 ?side2 A6.out).mono ?_);(case side1 => exact q104_);(case side2 => exact (Kd.R_reads' HO543.out).2.1);rintro e w15 ⟨rfl,hb⟩;refine ⟨_,rfl,?_⟩;have n0_:=Aside0.mk (Kd.R_below q73_ hb);have n1_:=Aside0.mk (below_step q42_ hb);clear HO543;clear HB;have HO543:=n0_;have HB:=n1_;clear n0_ n1_;(try clear hb)) | ((with_reducible refine gate_callee (f:=32) rfl ?_);refine goesL_ (some 19) rfl rfl Tryz.func32 (by kernel_rfl) rfl #[.slice A1 l1.length c1] rfl q40_ ?_;(with_reducible refine (laws_toInt64S.calls k _ _ l1 t545 _ ?side1 ?side2 A7.out).mono ?_);(case side1 => exact q103_);(case side2 => exact HC1.out);rintro e w16 ⟨v546,rfl,ho0,hb⟩;refine ⟨_,rfl,?_⟩;have n0_:=Aside0.mk (Kd.R_elder' q73_ (Kd.R_base ho0) hb);have n1_:=Aside0.mk (Kd.R_lower (Kd.R_new' ho0 (Kd.R_lt q73_)) (below_size q42_));have n2_:=Aside0.mk (below_step q42_ hb);clear HO543;clear HB;have HO543:=n0_;have HO547:=n1_;have HB:=n2_;clear n0_ n1_ n2_;(try clear hb);(try clear ho0);obtain ⟨Ao17,co17,eo17⟩:=Kd.R_slice HO547.out;subst eo17) | ((with_reducible refine gate_callee (f:=33) rfl ?_);refine goesL_ (some 22) rfl rfl Tryz.func33 (by kernel_rfl) rfl #[.string a0,.slice Ao17 t545.length co17] rfl q40_ ?_;(with_reducible refine (impl_MarksOf.calls k a0 _ _ t545 t548 _ ?side1 ?side2 A8.out).mono ?_);(case side1 => exact q105_);(case side2 => exact (Kd.R_reads' HO547.out).2.1);rintro e w18 ⟨rfl,hb⟩;refine ⟨_,rfl,?_⟩;have n0_:=Aside0.mk (Kd.R_below q73_ hb);have n1_:=Aside0.mk (Kd.R_below q74_ hb);have n2_:=Aside0.mk (below_step q42_ hb);clear HO543;clear HO547;clear HB;have HO543:=n0_;have HO547:=n1_;have HB:=n2_;clear n0_ n1_ n2_;(try clear hb)) | ((with_reducible refine gate_callee (f:=32) rfl ?_);refine goesL_ (some 28) rfl rfl Tryz.func32 (by kernel_rfl) rfl #[.slice A1 l1.length c1] rfl q40_ ?_;(with_reducible refine (laws_toInt64S.calls k _ _ l1 t549 _ ?side1 ?side2 A10.out).mono ?_);(case side1 => exact q103_);(case side2 => exact HC1.out);rintro e w19 ⟨v550,rfl,ho0,hb⟩;refine ⟨_,rfl,?_⟩;have n0_:=Aside0.mk (Kd.R_elder' q73_ (Kd.R_base ho0) hb);have n1_:=Aside0.mk (Kd.R_elder' q74_ (Kd.R_base ho0) hb);have n2_:=Aside0.mk (Kd.R_lower (Kd.R_new' (Kd.R_new' ho0 (Kd.R_lt q73_)) (Kd.R_lt q74_)) (below_size q42_));have n3_:=Aside0.mk (below_step q42_ hb);clear HO543;clear HO547;clear HB;have HO543:=n0_;have HO547:=n1_;have HO551:=n2_;have HB:=n3_;clear n0_ n1_ n2_ n3_;(try clear hb);(try clear ho0);obtain ⟨Ao20,co20,eo20⟩:=Kd.R_slice HO551.out;subst eo20) | ((with_reducible refine gate_callee (f:=34) rfl ?_);refine goesL_ (some 29) rfl rfl Tryz.func34 (by kernel_rfl) rfl #[.slice Ao17 t545.length co17,.slice Ao20 t549.length co20] rfl q40_ ?_;(with_reducible refine (laws_eqInt64S.calls k _ _ t545 _ _ t549 true _ ?side1 ?side2 ?side3 ?side4 A11.out).mono ?_);(case side1 => exact q105_);(case side2 => exact (Kd.R_reads' HO547.out).2.1);(case side3 => exact q106_);(case side4 => exact (Kd.R_reads' HO551.out).2.1);rintro e w' ⟨rfl,⟨nd,rfl⟩⟩;refine ⟨_,rfl,?_⟩))
   go_ret
   exact ⟨q47_,q42_⟩
  replace c12:=Bool.eq_false_iff.mpr c12
  subst c12
  replace H:(some false) = some r:=by rw [if_neg (show ¬ (false = true) by decide)] at H;exact H
  obtain rfl:=Option.some.inj H
  go_enter Tryz.func7,Tryz.ntmps7
  go_wp2_with (first | ((with_reducible refine gate_callee (f:=32) rfl ?_);refine goesL_ (some 16) rfl rfl Tryz.func32 (by kernel_rfl) rfl #[.slice A1 l1.length c1] rfl q40_ ?_;(with_reducible refine (laws_toInt64S.calls k _ _ l1 t541 _ ?side1 ?side2 A5.out).mono ?_);(case side1 => exact q107_);(case side2 => exact HC1.out);rintro e w21 ⟨v542,rfl,ho0,hb⟩;refine ⟨_,rfl,?_⟩;have n0_:=Aside0.mk (Kd.R_lower ho0 (below_size q42_));have n1_:=Aside0.mk (below_step q42_ hb);clear HB;have HO543:=n0_;have HB:=n1_;clear n0_ n1_;(try clear hb);(try clear ho0);obtain ⟨Ao22,co22,eo22⟩:=Kd.R_slice HO543.out;subst eo22) | ((with_reducible refine gate_callee (f:=31) rfl ?_);refine goesL_ (some 17) rfl rfl Tryz.func31 (by kernel_rfl) rfl #[.string a0,.slice Ao22 t541.length co22] rfl q40_ ?_;(with_reducible refine (spec_MarksOf.calls k a0 _ _ t541 t544 _ ?side1 ?side2 A6.out).mono ?_);(case side1 => exact q104_);(case side2 => exact (Kd.R_reads' HO543.out).2.1);rintro e w23 ⟨rfl,hb⟩;refine ⟨_,rfl,?_⟩;have n0_:=Aside0.mk (Kd.R_below q73_ hb);have n1_:=Aside0.mk (below_step q42_ hb);clear HO543;clear HB;have HO543:=n0_;have HB:=n1_;clear n0_ n1_;(try clear hb)) | ((with_reducible refine gate_callee (f:=32) rfl ?_);refine goesL_ (some 19) rfl rfl Tryz.func32 (by kernel_rfl) rfl #[.slice A1 l1.length c1] rfl q40_ ?_;(with_reducible refine (laws_toInt64S.calls k _ _ l1 t545 _ ?side1 ?side2 A7.out).mono ?_);(case side1 => exact q103_);(case side2 => exact HC1.out);rintro e w24 ⟨v546,rfl,ho0,hb⟩;refine ⟨_,rfl,?_⟩;have n0_:=Aside0.mk (Kd.R_elder' q73_ (Kd.R_base ho0) hb);have n1_:=Aside0.mk (Kd.R_lower (Kd.R_new' ho0 (Kd.R_lt q73_)) (below_size q42_));have n2_:=Aside0.mk (below_step q42_ hb);clear HO543;clear HB;have HO543:=n0_;have HO547:=n1_;have HB:=n2_;clear n0_ n1_ n2_;(try clear hb);(try clear ho0);obtain ⟨Ao25,co25,eo25⟩:=Kd.R_slice HO547.out;subst eo25) | ((with_reducible refine gate_callee (f:=33) rfl ?_);refine goesL_ (some 22) rfl rfl Tryz.func33 (by kernel_rfl) rfl #[.string a0,.slice Ao25 t545.length co25] rfl q40_ ?_;(with_reducible refine (impl_MarksOf.calls k a0 _ _ t545 t548 _ ?side1 ?side2 A8.out).mono ?_);(case side1 => exact q105_);(case side2 => exact (Kd.R_reads' HO547.out).2.1);rintro e w26 ⟨rfl,hb⟩;refine ⟨_,rfl,?_⟩;have n0_:=Aside0.mk (Kd.R_below q73_ hb);have n1_:=Aside0.mk (Kd.R_below q74_ hb);have n2_:=Aside0.mk (below_step q42_ hb);clear HO543;clear HO547;clear HB;have HO543:=n0_;have HO547:=n1_;have HB:=n2_;clear n0_ n1_ n2_;(try clear hb)) | ((with_reducible refine gate_callee (f:=32) rfl ?_);refine goesL_ (some 28) rfl rfl Tryz.func32 (by kernel_rfl) rfl #[.slice A1 l1.length c1] rfl q40_ ?_;(with_reducible refine (laws_toInt64S.calls k _ _ l1 t549 _ ?side1 ?side2 A10.out).mono ?_);(case side1 => exact q103_);(case side2 => exact HC1.out);rintro e w27 ⟨v550,rfl,ho0,hb⟩;refine ⟨_,rfl,?_⟩;have n0_:=Aside0.mk (Kd.R_elder' q73_ (Kd.R_base ho0) hb);have n1_:=Aside0.mk (Kd.R_elder' q74_ (Kd.R_base ho0) hb);have n2_:=Aside0.mk (Kd.R_lower (Kd.R_new' (Kd.R_new' ho0 (Kd.R_lt q73_)) (Kd.R_lt q74_)) (below_size q42_));have n3_:=Aside0.mk (below_step q42_ hb);clear HO543;clear HO547;clear HB;have HO543:=n0_;have HO547:=n1_;have HO551:=n2_;have HB:=n3_;clear n0_ n1_ n2_ n3_;(try clear hb);(try clear ho0);obtain ⟨Ao28,co28,eo28⟩:=Kd.R_slice HO551.out;subst eo28) | ((with_reducible refine gate_callee (f:=34) rfl ?_);refine goesL_ (some 29) rfl rfl Tryz.func34 (by kernel_rfl) rfl #[.slice Ao25 t545.length co25,.slice Ao28 t549.length co28] rfl q40_ ?_;(with_reducible refine (laws_eqInt64S.calls k _ _ t545 _ _ t549 false _ ?side1 ?side2 ?side3 ?side4 A11.out).mono ?_);(case side1 => exact q105_);(case side2 => exact (Kd.R_reads' HO547.out).2.1);(case side3 => exact q106_);(case side4 => exact (Kd.R_reads' HO551.out).2.1);rintro e w' ⟨rfl,⟨nd,rfl⟩⟩;refine ⟨_,rfl,?_⟩))
  go_ret
  exact ⟨q47_,q42_⟩
 rw [if_neg c9] at H
 have c9b0:(t548.toList == t544.toList) = false:=beq_eq_false_iff_ne.mpr c9
 have c9b1:(t548.toList != t544.toList) = true:=bne_iff_ne.mpr c9
 obtain rfl:=Option.some.inj H
 go_enter Tryz.func7,Tryz.ntmps7
 go_wp2_with (first | ((with_reducible refine gate_callee (f:=32) rfl ?_);refine goesL_ (some 16) rfl rfl Tryz.func32 (by kernel_rfl) rfl #[.slice A1 l1.length c1] rfl q40_ ?_;(with_reducible refine (laws_toInt64S.calls k _ _ l1 t541 _ ?side1 ?side2 A5.out).mono ?_);(case side1 => exact q107_);(case side2 => exact HC1.out);rintro e w29 ⟨v542,rfl,ho0,hb⟩;refine ⟨_,rfl,?_⟩;have n0_:=Aside0.mk (Kd.R_lower ho0 (below_size q42_));have n1_:=Aside0.mk (below_step q42_ hb);clear HB;have HO543:=n0_;have HB:=n1_;clear n0_ n1_;(try clear hb);(try clear ho0);obtain ⟨Ao30,co30,eo30⟩:=Kd.R_slice HO543.out;subst eo30) | ((with_reducible refine gate_callee (f:=31) rfl ?_);refine goesL_ (some 17) rfl rfl Tryz.func31 (by kernel_rfl) rfl #[.string a0,.slice Ao30 t541.length co30] rfl q40_ ?_;(with_reducible refine (spec_MarksOf.calls k a0 _ _ t541 t544 _ ?side1 ?side2 A6.out).mono ?_);(case side1 => exact q104_);(case side2 => exact (Kd.R_reads' HO543.out).2.1);rintro e w31 ⟨rfl,hb⟩;refine ⟨_,rfl,?_⟩;have n0_:=Aside0.mk (Kd.R_below q73_ hb);have n1_:=Aside0.mk (below_step q42_ hb);clear HO543;clear HB;have HO543:=n0_;have HB:=n1_;clear n0_ n1_;(try clear hb)) | ((with_reducible refine gate_callee (f:=32) rfl ?_);refine goesL_ (some 19) rfl rfl Tryz.func32 (by kernel_rfl) rfl #[.slice A1 l1.length c1] rfl q40_ ?_;(with_reducible refine (laws_toInt64S.calls k _ _ l1 t545 _ ?side1 ?side2 A7.out).mono ?_);(case side1 => exact q103_);(case side2 => exact HC1.out);rintro e w32 ⟨v546,rfl,ho0,hb⟩;refine ⟨_,rfl,?_⟩;have n0_:=Aside0.mk (Kd.R_elder' q73_ (Kd.R_base ho0) hb);have n1_:=Aside0.mk (Kd.R_lower (Kd.R_new' ho0 (Kd.R_lt q73_)) (below_size q42_));have n2_:=Aside0.mk (below_step q42_ hb);clear HO543;clear HB;have HO543:=n0_;have HO547:=n1_;have HB:=n2_;clear n0_ n1_ n2_;(try clear hb);(try clear ho0);obtain ⟨Ao33,co33,eo33⟩:=Kd.R_slice HO547.out;subst eo33) | ((with_reducible refine gate_callee (f:=33) rfl ?_);refine goesL_ (some 22) rfl rfl Tryz.func33 (by kernel_rfl) rfl #[.string a0,.slice Ao33 t545.length co33] rfl q40_ ?_;(with_reducible refine (impl_MarksOf.calls k a0 _ _ t545 t548 _ ?side1 ?side2 A8.out).mono ?_);(case side1 => exact q105_);(case side2 => exact (Kd.R_reads' HO547.out).2.1);rintro e w34 ⟨rfl,hb⟩;refine ⟨_,rfl,?_⟩;have n0_:=Aside0.mk (Kd.R_below q73_ hb);have n1_:=Aside0.mk (Kd.R_below q74_ hb);have n2_:=Aside0.mk (below_step q42_ hb);clear HO543;clear HO547;clear HB;have HO543:=n0_;have HO547:=n1_;have HB:=n2_;clear n0_ n1_ n2_;(try clear hb)))
 go_ret
 exact ⟨q47_,q42_⟩
/-- THE ONE PURE STATEMENT of laws_FnExactMarksOf: yours. -/
def laws_FnExactMarksOf.Pure:Prop:=∀ (a0:ByteArray) (l1:List Int),a0.size ≤ 140737488351232 → l1.length ≤ maxLen → l1.length * 8 ≤ 140737488351232 → (∀ x ∈ l1,(Lit.int .i64 x).wf = true) → ∃ k,laws_FnExactMarksOf.f k a0 l1 = some true
theorem laws_FnExactMarksOf.walk (P:laws_FnExactMarksOf.Pure) (a0:ByteArray) (a1:Option Addr) (len1 cap1:Nat) (z1:List Int) (w:World) (w0:a0.size ≤ 140737488351232) (w1:(a1 = none ∧ len1 = 0 ∧ cap1 = 0 ∧ z1 = []) ∨ ∃ x,a1 = some x ∧ len1 ≤ cap1 ∧ cap1 ≤ maxLen ∧ z1.length = cap1 ∧ (∀ i,i < z1.length → w.cell? (x.add i) = some (.int .i64 (z1.getD i 0))) ∧ ∀ n ∈ z1,(Lit.int .i64 n).wf = true) (y1:len1 * 8 ≤ 140737488351232) (hG:Go.Proofs.YtodlnnoekccmmaaGreatDoor.LibW.GL w) :
  Calls Tryz.prog 7 #[.string a0,.slice a1 len1 cap1] w fun e w' => e = .returned (.bool true) ∧ Below w.heap.size w w':=by
 obtain ⟨l1,rfl,hr1,hm1,hw1,hc1⟩:=ReadsInt.ofRowC w1
 obtain ⟨k,h⟩:=P a0 l1 w0 hm1 y1 hw1
 refine (laws_FnExactMarksOf.calls k a0 _ _ l1 true w (Kd.C_of_reads (d:=(0:Int)) (h1:=fun _ => rfl) hr1) hc1 h).mono ?_
 rintro e w' ⟨rfl,hd⟩
 exact ⟨rfl,hd⟩
end Go.Proofs.YtodlnnoekccmmaaGreatDoor.QFnExactMarksOf
