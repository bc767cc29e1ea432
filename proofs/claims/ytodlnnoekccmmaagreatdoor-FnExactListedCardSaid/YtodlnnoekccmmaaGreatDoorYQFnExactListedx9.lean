/- The machine's side of a law,written by a program of this session for this claim. -/
import Derived.Test.YtodlnnoekccmmaaGreatDoorYQq
import Derived.Test.YtodlnnoekccmmaaGreatDoorYQFnExactListedx0
import Derived.Test.YtodlnnoekccmmaaGreatDoorYQFnExactListedx1
import Derived.Test.YtodlnnoekccmmaaGreatDoorYQFnExactListedx8
namespace Go.Proofs.YtodlnnoekccmmaaGreatDoor.QFnExactListed
open Go.Proofs.YtodlnnoekccmmaaGreatDoor.Qq
open Go.RowKit Go.Proofs.YtodlnnoekccmmaaGreatDoor.LibX Go.Proofs.YtodlnnoekccmmaaGreatDoor.LibE Go.Proofs.YtodlnnoekccmmaaGreatDoorW.PrintWords Go.Proofs.YtodlnnoekccmmaaGreatDoorW.PrintLast Go.Proofs.YtodlnnoekccmmaaGreatDoorW.PrintMore
attribute [local go_sem] max2_int min2_int max_two min_two max_three min_three max_four min_four   -- for this text's walks alone
set_option maxHeartbeats 8000000
set_option maxRecDepth 100000
set_option linter.unusedVariables false
set_option linter.unusedSimpArgs false
def spec_Listed.f (k:Nat) (a0:ByteArray) (a1:Int):Option (List ByteArray × Bool):=(spec_l5Banks.f a0).bind fun t312 => ((spec_l1In.f a1 0 (wrap64 (t312 - 1))).bind fun t313 => (if t313 = true then (if a1 > 0 then (if 0 ≤ (wrap64 (a1 * 256)) then (if (wrap64 (a1 * 256)) ≤ (wrap64 ((wrap64 (a1 + 1)) * 256)) then (if (wrap64 ((wrap64 (a1 + 1)) * 256)) ≤ (a0.size:Int) then ((spec_l13Listed.f k (a0.extract ((wrap64 (a1 * 256)):Int).toNat ((wrap64 ((wrap64 (a1 + 1)) * 256)):Int).toNat) 256).bind fun t314 => (some (t314,true))) else (none)) else (none)) else (none)) else (if 0 ≤ (wrap64 (a1 * 256)) then (if (wrap64 (a1 * 256)) ≤ (wrap64 ((wrap64 (a1 + 1)) * 256)) then (if (wrap64 ((wrap64 (a1 + 1)) * 256)) ≤ (a0.size:Int) then ((spec_l13Listed.f k (a0.extract ((wrap64 (a1 * 256)):Int).toNat ((wrap64 ((wrap64 (a1 + 1)) * 256)):Int).toNat) 0).bind fun t317 => (some (t317,true))) else (none)) else (none)) else (none))) else (some (([]:List ByteArray),false))))
theorem spec_Listed.mono:∀ a0 a1 k,LeO (spec_Listed.f k a0 a1) (spec_Listed.f (k + 1) a0 a1):=by
 intro a0 a1 k
 unfold spec_Listed.f
 repeat' first
   | (with_reducible first | exact spec_l13Listed.mono _ _ _ | exact LeO.refl _ | exact LeO.none _ | refine LeO.ite ?_ ?_ | refine LeO.bind ?_ (fun _ => ?_))
   | exact spec_l13Listed.mono _ _ _
   | exact LeO.none _
   | refine LeO.ite ?_ ?_
   | refine LeO.bind ?_ (fun _ => ?_)
theorem spec_Listed.calls (k:Nat) (a0:ByteArray) (a1:Int) (r1:List ByteArray) (r2:Bool) (w:World) (h:spec_Listed.f k a0 a1 = some (r1,r2)) :
  Calls Tryz.prog 36 #[.string a0,.int .i64 a1] w fun e w' => ∃ v0_:Value,e = .returned (.tuple #[v0_,.bool r2]) ∧ Kd.R Kd.string 9 w' w.heap.size (fun _ => True) v0_ r1 ∧ Below w.heap.size w w':=by
 have HB:=Aside0.mk (Below.refl w.heap.size w)
 have H:((spec_l5Banks.f a0).bind fun t312 => ((spec_l1In.f a1 0 (wrap64 (t312 - 1))).bind fun t313 => (if t313 = true then (if a1 > 0 then (if 0 ≤ (wrap64 (a1 * 256)) then (if (wrap64 (a1 * 256)) ≤ (wrap64 ((wrap64 (a1 + 1)) * 256)) then (if (wrap64 ((wrap64 (a1 + 1)) * 256)) ≤ (a0.size:Int) then ((spec_l13Listed.f k (a0.extract ((wrap64 (a1 * 256)):Int).toNat ((wrap64 ((wrap64 (a1 + 1)) * 256)):Int).toNat) 256).bind fun t314 => (some (t314,true))) else (none)) else (none)) else (none)) else (if 0 ≤ (wrap64 (a1 * 256)) then (if (wrap64 (a1 * 256)) ≤ (wrap64 ((wrap64 (a1 + 1)) * 256)) then (if (wrap64 ((wrap64 (a1 + 1)) * 256)) ≤ (a0.size:Int) then ((spec_l13Listed.f k (a0.extract ((wrap64 (a1 * 256)):Int).toNat ((wrap64 ((wrap64 (a1 + 1)) * 256)):Int).toNat) 0).bind fun t317 => (some (t317,true))) else (none)) else (none)) else (none))) else (some (([]:List ByteArray),false))))) = some (r1,r2):=h
 clear h
 replace H:=Option.bind_eq_some_iff.mp H
 obtain ⟨t312,A30,H⟩:=H
 have A3:=Aside0.mk A30
 clear A30
 replace H:=Option.bind_eq_some_iff.mp H
 obtain ⟨t313,A40,H⟩:=H
 have A4:=Aside0.mk A40
 clear A40
 by_cases c5:t313 = true
 ·subst c5
  replace H:(if a1 > 0 then (if 0 ≤ (wrap64 (a1 * 256)) then (if (wrap64 (a1 * 256)) ≤ (wrap64 ((wrap64 (a1 + 1)) * 256)) then (if (wrap64 ((wrap64 (a1 + 1)) * 256)) ≤ (a0.size:Int) then ((spec_l13Listed.f k (a0.extract ((wrap64 (a1 * 256)):Int).toNat ((wrap64 ((wrap64 (a1 + 1)) * 256)):Int).toNat) 256).bind fun t314 => (some (t314,true))) else (none)) else (none)) else (none)) else (if 0 ≤ (wrap64 (a1 * 256)) then (if (wrap64 (a1 * 256)) ≤ (wrap64 ((wrap64 (a1 + 1)) * 256)) then (if (wrap64 ((wrap64 (a1 + 1)) * 256)) ≤ (a0.size:Int) then ((spec_l13Listed.f k (a0.extract ((wrap64 (a1 * 256)):Int).toNat ((wrap64 ((wrap64 (a1 + 1)) * 256)):Int).toNat) 0).bind fun t317 => (some (t317,true))) else (none)) else (none)) else (none))) = some (r1,r2):=by rw [if_pos rfl] at H;exact H
  by_cases c6:a1 > 0
  ·rw [if_pos c6] at H
   have c6b0:decide (0 < a1) = true:=decide_eq_true c6
   clear c6
   obtain ⟨ji7,hji7⟩:∃ j_:Int,(wrap64 (a1 * 256)) = j_:=⟨_,rfl⟩
   replace H:(if 0 ≤ (ji7) then (if (ji7) ≤ (wrap64 ((wrap64 (a1 + 1)) * 256)) then (if (wrap64 ((wrap64 (a1 + 1)) * 256)) ≤ (a0.size:Int) then ((spec_l13Listed.f k (a0.extract ((ji7):Int).toNat ((wrap64 ((wrap64 (a1 + 1)) * 256)):Int).toNat) 256).bind fun t314 => (some (t314,true))) else (none)) else (none)) else (none)) = some (r1,r2):=by first | (rw [hji7] at H;exact H) | (simp only [hji7] at H ⊢;exact H)
   (try rw [hji7] at A3)
   (try rw [hji7] at A4)
   have hji7w:(IntKind.i64.wrap (a1 * 256)) = ji7:=(i64_w _).trans hji7
   by_cases c8:0 ≤ (ji7)
   rotate_left
   ·rw [if_neg c8] at H
    exact absurd H (by simp)
   rw [if_pos c8] at H
   have c8b0:=eq_true c8
   have c8b1:decide (0 ≤ (ji7)) = true:=decide_eq_true c8
   clear c8
   by_cases c9:(ji7) ≤ (wrap64 ((wrap64 (a1 + 1)) * 256))
   rotate_left
   ·rw [if_neg c9] at H
    exact absurd H (by simp)
   rw [if_pos c9] at H
   have c9b0:=eq_true c9
   have c9b1:decide ((ji7) ≤ (wrap64 ((wrap64 (a1 + 1)) * 256))) = true:=decide_eq_true c9
   by_cases c10:(wrap64 ((wrap64 (a1 + 1)) * 256)) ≤ (a0.size:Int)
   rotate_left
   ·rw [if_neg c10] at H
    exact absurd H (by simp)
   rw [if_pos c10] at H
   have c10b0:=eq_true c10
   have c10b1:decide ((wrap64 ((wrap64 (a1 + 1)) * 256)) ≤ (a0.size:Int)) = true:=decide_eq_true c10
   replace H:=Option.bind_eq_some_iff.mp H
   obtain ⟨t314,A110,H⟩:=H
   have A11:=Aside0.mk A110
   clear A110
   simp only [Option.some.injEq,Prod.mk.injEq] at H
   obtain ⟨rfl,rfl⟩:=H
   go_enter Tryz.func36,Tryz.ntmps36
   go_wp2_with (first | ((with_reducible refine gate_callee (f:=76) rfl ?_);refine goesL_ (some 9) rfl rfl Tryz.func76 (by kernel_rfl) rfl #[.string a0] rfl q46_ ?_;(with_reducible refine (spec_l5Banks.calls a0 t312 _ A3.out).mono ?_);rintro e w' ⟨rfl,⟨nd,rfl⟩⟩;refine ⟨_,rfl,?_⟩) | ((with_reducible refine gate_callee (f:=51) rfl ?_);refine goesL_ (some 11) rfl rfl Tryz.func51 (by kernel_rfl) rfl #[.int .i64 a1,.int .i64 0,.int .i64 (wrap64 (t312 - 1))] rfl q7_ ?_;(with_reducible refine (spec_l1In.calls a1 0 (wrap64 (t312 - 1)) true _ A4.out).mono ?_);rintro e w' ⟨rfl,⟨nd,rfl⟩⟩;refine ⟨_,rfl,?_⟩) | ((with_reducible refine gate_callee (f:=86) rfl ?_);refine goesL_ (some 23) rfl rfl Tryz.func86 (by kernel_rfl) rfl #[.string (a0.extract ((ji7):Int).toNat ((wrap64 ((wrap64 (a1 + 1)) * 256)):Int).toNat),.int .i64 256] rfl (by (try simp only [List.map_toArray,List.map_cons,List.map_nil]);first | done | (simp only [hji7];rfl) | rfl | (simp only [List.length_drop,List.length_take];rfl) | (refine Eq.trans (b:=#[.string (a0.extract ((ji7):Int).toNat (((((a1 + 1)) * 256)):Int).toNat),.int .i64 256]) rfl ?_;simp [wrap64] <;> omega)) ?_;(with_reducible refine (spec_l13Listed.calls k (a0.extract ((ji7):Int).toNat ((wrap64 ((wrap64 (a1 + 1)) * 256)):Int).toNat) 256 t314 _ A11.out).mono ?_);rintro e w12 ⟨v315,rfl,ho0,hb⟩;refine ⟨_,rfl,?_⟩;have n0_:=Aside0.mk (Kd.R_lower ho0 (below_size q50_));have n1_:=Aside0.mk (below_step q50_ hb);clear HB;have HO316:=n0_;have HB:=n1_;clear n0_ n1_;(try clear hb);(try clear ho0)))
   go_ret2
   exact ⟨_,by first | rfl | (simp [errW_none,errW_some] <;> rfl) | (simp only [← hji7];first | rfl | (simp [errW_none,errW_some] <;> rfl)) | (simp [*,errW_none,errW_some] <;> rfl) | (exfalso;simp_all;done),by (with_reducible repeat (first | apply Kd.R_alloc | apply Kd.R_drewN | apply Kd.R_drew));exact HO316.out,q50_⟩
  rw [if_neg c6] at H
  have c6b0:decide (0 < a1) = false:=decide_eq_false c6
  clear c6
  obtain ⟨ji13,hji13⟩:∃ j_:Int,(wrap64 (a1 * 256)) = j_:=⟨_,rfl⟩
  replace H:(if 0 ≤ (ji13) then (if (ji13) ≤ (wrap64 ((wrap64 (a1 + 1)) * 256)) then (if (wrap64 ((wrap64 (a1 + 1)) * 256)) ≤ (a0.size:Int) then ((spec_l13Listed.f k (a0.extract ((ji13):Int).toNat ((wrap64 ((wrap64 (a1 + 1)) * 256)):Int).toNat) 0).bind fun t317 => (some (t317,true))) else (none)) else (none)) else (none)) = some (r1,r2):=by first | (rw [hji13] at H;exact H) | (simp only [hji13] at H ⊢;exact H)
  (try rw [hji13] at A3)
  (try rw [hji13] at A4)
  have hji13w:(IntKind.i64.wrap (a1 * 256)) = ji13:=(i64_w _).trans hji13
  by_cases c14:0 ≤ (ji13)
  rotate_left
  ·rw [if_neg c14] at H
   exact absurd H (by simp)
  rw [if_pos c14] at H
  have c14b0:=eq_true c14
  have c14b1:decide (0 ≤ (ji13)) = true:=decide_eq_true c14
  clear c14
  by_cases c15:(ji13) ≤ (wrap64 ((wrap64 (a1 + 1)) * 256))
  rotate_left
  ·rw [if_neg c15] at H
   exact absurd H (by simp)
  rw [if_pos c15] at H
  have c15b0:=eq_true c15
  have c15b1:decide ((ji13) ≤ (wrap64 ((wrap64 (a1 + 1)) * 256))) = true:=decide_eq_true c15
  by_cases c16:(wrap64 ((wrap64 (a1 + 1)) * 256)) ≤ (a0.size:Int)
  rotate_left
  ·rw [if_neg c16] at H
   exact absurd H (by simp)
  rw [if_pos c16] at H
  have c16b0:=eq_true c16
  have c16b1:decide ((wrap64 ((wrap64 (a1 + 1)) * 256)) ≤ (a0.size:Int)) = true:=decide_eq_true c16
  replace H:=Option.bind_eq_some_iff.mp H
  obtain ⟨t317,A170,H⟩:=H
  have A17:=Aside0.mk A170
  clear A170
  simp only [Option.some.injEq,Prod.mk.injEq] at H
  obtain ⟨rfl,rfl⟩:=H
  go_enter Tryz.func36,Tryz.ntmps36
  go_wp2_with (first | ((with_reducible refine gate_callee (f:=76) rfl ?_);refine goesL_ (some 9) rfl rfl Tryz.func76 (by kernel_rfl) rfl #[.string a0] rfl q46_ ?_;(with_reducible refine (spec_l5Banks.calls a0 t312 _ A3.out).mono ?_);rintro e w' ⟨rfl,⟨nd,rfl⟩⟩;refine ⟨_,rfl,?_⟩) | ((with_reducible refine gate_callee (f:=51) rfl ?_);refine goesL_ (some 11) rfl rfl Tryz.func51 (by kernel_rfl) rfl #[.int .i64 a1,.int .i64 0,.int .i64 (wrap64 (t312 - 1))] rfl q7_ ?_;(with_reducible refine (spec_l1In.calls a1 0 (wrap64 (t312 - 1)) true _ A4.out).mono ?_);rintro e w' ⟨rfl,⟨nd,rfl⟩⟩;refine ⟨_,rfl,?_⟩) | ((with_reducible refine gate_callee (f:=86) rfl ?_);refine goesL_ (some 23) rfl rfl Tryz.func86 (by kernel_rfl) rfl #[.string (a0.extract ((ji13):Int).toNat ((wrap64 ((wrap64 (a1 + 1)) * 256)):Int).toNat),.int .i64 0] rfl (by (try simp only [List.map_toArray,List.map_cons,List.map_nil]);first | done | (simp only [hji13];rfl) | rfl | (simp only [List.length_drop,List.length_take];rfl) | (refine Eq.trans (b:=#[.string (a0.extract ((ji13):Int).toNat (((((a1 + 1)) * 256)):Int).toNat),.int .i64 0]) rfl ?_;simp [wrap64] <;> omega)) ?_;(with_reducible refine (spec_l13Listed.calls k (a0.extract ((ji13):Int).toNat ((wrap64 ((wrap64 (a1 + 1)) * 256)):Int).toNat) 0 t317 _ A17.out).mono ?_);rintro e w18 ⟨v318,rfl,ho0,hb⟩;refine ⟨_,rfl,?_⟩;have n0_:=Aside0.mk (Kd.R_lower ho0 (below_size q50_));have n1_:=Aside0.mk (below_step q50_ hb);clear HB;have HO319:=n0_;have HB:=n1_;clear n0_ n1_;(try clear hb);(try clear ho0)))
  go_ret2
  exact ⟨_,q18_,by (with_reducible repeat (first | apply Kd.R_alloc | apply Kd.R_drewN | apply Kd.R_drew));exact HO319.out,q50_⟩
 replace c5:=Bool.eq_false_iff.mpr c5
 subst c5
 replace H:(some (([]:List ByteArray),false)) = some (r1,r2):=by rw [if_neg (show ¬ (false = true) by decide)] at H;exact H
 simp only [Option.some.injEq,Prod.mk.injEq] at H
 obtain ⟨rfl,rfl⟩:=H
 go_enter Tryz.func36,Tryz.ntmps36
 go_wp2_with (first | ((with_reducible refine gate_callee (f:=76) rfl ?_);refine goesL_ (some 9) rfl rfl Tryz.func76 (by kernel_rfl) rfl #[.string a0] rfl q46_ ?_;(with_reducible refine (spec_l5Banks.calls a0 t312 _ A3.out).mono ?_);rintro e w' ⟨rfl,⟨nd,rfl⟩⟩;refine ⟨_,rfl,?_⟩) | ((with_reducible refine gate_callee (f:=51) rfl ?_);refine goesL_ (some 11) rfl rfl Tryz.func51 (by kernel_rfl) rfl #[.int .i64 a1,.int .i64 0,.int .i64 (wrap64 (t312 - 1))] rfl q7_ ?_;(with_reducible refine (spec_l1In.calls a1 0 (wrap64 (t312 - 1)) false _ A4.out).mono ?_);rintro e w' ⟨rfl,⟨nd,rfl⟩⟩;refine ⟨_,rfl,?_⟩))
 go_ret2
 exact ⟨_,q53_,q44_,q50_⟩
def impl_within.f (a0:Int) (a1:Int) (a2:Int):Option (Bool):=if a0 ≥ a1 then (some (decide (a0 ≤ a2))) else (some false)
theorem impl_within.calls (a0:Int) (a1:Int) (a2:Int) (r:Bool) (w:World) (h:impl_within.f a0 a1 a2 = some r) :
  Calls Tryz.prog 61 #[.int .i64 a0,.int .i64 a1,.int .i64 a2] w fun e w' => e = .returned (.bool r) ∧ Drawn0 w w':=by
 have H:(if a0 ≥ a1 then (some (decide (a0 ≤ a2))) else (some false)) = some r:=h
 clear h
 by_cases c4:a0 ≥ a1
 ·rw [if_pos c4] at H
  have c4b0:decide (a1 ≤ a0) = true:=decide_eq_true c4
  clear c4
  obtain rfl:=Option.some.inj H
  go_enter Tryz.func61,Tryz.ntmps61
  go_wp2
  go_ret
  exact ⟨q69_,q85_⟩
 rw [if_neg c4] at H
 have c4b0:decide (a1 ≤ a0) = false:=decide_eq_false c4
 clear c4
 obtain rfl:=Option.some.inj H
 go_enter Tryz.func61,Tryz.ntmps61
 go_wp2
 go_ret
 exact ⟨q69_,q85_⟩
def impl_banksOf.f (a0:ByteArray) (a1:Int):Option (Int):=if ((a0.size:Int) % 256) = 0 then ((impl_within.f (wrap64 ((a0.size:Int) / 256)) a1 16).bind fun t320 => (if t320 = true then (some (wrap64 ((a0.size:Int) / 256))) else (some 0))) else (some 0)
theorem impl_banksOf.calls (a0:ByteArray) (a1:Int) (r:Int) (w:World) (h:impl_banksOf.f a0 a1 = some r) :
  Calls Tryz.prog 78 #[.string a0,.int .i64 a1] w fun e w' => e = .returned (.int .i64 r) ∧ Drawn0 w w':=by
 have H:(if ((a0.size:Int) % 256) = 0 then ((impl_within.f (wrap64 ((a0.size:Int) / 256)) a1 16).bind fun t320 => (if t320 = true then (some (wrap64 ((a0.size:Int) / 256))) else (some 0))) else (some 0)) = some r:=h
 clear h
 by_cases c3:((a0.size:Int) % 256) = 0
 ·rw [if_pos c3] at H
  have c3b0:(((a0.size:Int) % 256) == 0) = true:=beq_iff_eq.mpr c3
  have c3b1:(((a0.size:Int) % 256) != 0) = false:=bne_eq_false_iff_eq.mpr c3
  clear c3
  replace H:=Option.bind_eq_some_iff.mp H
  obtain ⟨t320,A40,H⟩:=H
  have A4:=Aside0.mk A40
  clear A40
  by_cases c5:t320 = true
  ·subst c5
   replace H:(some (wrap64 ((a0.size:Int) / 256))) = some r:=by rw [if_pos rfl] at H;exact H
   obtain rfl:=Option.some.inj H
   go_enter Tryz.func78,Tryz.ntmps78
   go_wp2_with (first | (go_at_call 61;(with_reducible refine (impl_within.calls (wrap64 ((a0.size:Int) / 256)) a1 16 true _ A4.out).mono ?_);rintro e w' ⟨rfl,⟨nd,rfl⟩⟩))
   go_ret
   exact ⟨q69_,q85_⟩
  replace c5:=Bool.eq_false_iff.mpr c5
  subst c5
  replace H:(some 0) = some r:=by rw [if_neg (show ¬ (false = true) by decide)] at H;exact H
  obtain rfl:=Option.some.inj H
  go_enter Tryz.func78,Tryz.ntmps78
  go_wp2_with (first | (go_at_call 61;(with_reducible refine (impl_within.calls (wrap64 ((a0.size:Int) / 256)) a1 16 false _ A4.out).mono ?_);rintro e w' ⟨rfl,⟨nd,rfl⟩⟩))
  go_ret
  exact ⟨q69_,q85_⟩
 rw [if_neg c3] at H
 have c3b0:(((a0.size:Int) % 256) == 0) = false:=beq_eq_false_iff_ne.mpr c3
 have c3b1:(((a0.size:Int) % 256) != 0) = true:=bne_iff_ne.mpr c3
 obtain rfl:=Option.some.inj H
 go_enter Tryz.func78,Tryz.ntmps78
 go_wp2
 go_ret
 exact ⟨q69_,q85_⟩
def impl_isByte.f (a0:Int):Option (Bool):=(impl_within.f a0 0 255).bind fun t321 => (some t321)
theorem impl_isByte.calls (a0:Int) (r:Bool) (w:World) (h:impl_isByte.f a0 = some r) :
  Calls Tryz.prog 58 #[.int .i64 a0] w fun e w' => e = .returned (.bool r) ∧ Drawn0 w w':=by
 have H:((impl_within.f a0 0 255).bind fun t321 => (some t321)) = some r:=h
 clear h
 replace H:=Option.bind_eq_some_iff.mp H
 obtain ⟨t321,A20,H⟩:=H
 have A2:=Aside0.mk A20
 clear A20
 obtain rfl:=Option.some.inj H
 go_enter Tryz.func58,Tryz.ntmps58
 go_wp2_with (first | ((with_reducible refine gate_callee (f:=61) rfl ?_);refine goesL_ (some 4) rfl rfl Tryz.func61 (by kernel_rfl) rfl #[.int .i64 a0,.int .i64 0,.int .i64 255] rfl q46_ ?_;(with_reducible refine (impl_within.calls a0 0 255 t321 _ A2.out).mono ?_);rintro e w' ⟨rfl,⟨nd,rfl⟩⟩;refine ⟨_,rfl,?_⟩))
 go_ret
 exact ⟨q69_,q85_⟩
def impl_decimal.f (a0:Int):Option (ByteArray):=(strconv_FormatInt.f a0 10).bind fun t322 => (some t322)
theorem impl_decimal.calls (a0:Int) (r:ByteArray) (w:World) (h:impl_decimal.f a0 = some r) (hG:Go.Proofs.YtodlnnoekccmmaaGreatDoor.LibW.GL w:=by first | exact hG | exact hG.below q4_ | exact hG.drewN _) :
  Calls Tryz.prog 89 #[.int .i64 a0] w fun e w' => e = .returned (.string r) ∧ Below w.heap.size w w':=by
 have HB:=Aside0.mk (Below.refl w.heap.size w)
 have H:((strconv_FormatInt.f a0 10).bind fun t322 => (some t322)) = some r:=h
 clear h
 replace H:=Option.bind_eq_some_iff.mp H
 obtain ⟨t322,A20,H⟩:=H
 have A2:=Aside0.mk A20
 clear A20
 obtain rfl:=Option.some.inj H
 go_enter Tryz.func89,Tryz.ntmps89
 go_wp2_with (first | ((with_reducible refine gate_callee (f:=127) rfl ?_);refine goesL_ (some 4) rfl rfl Tryz.func127 (by kernel_rfl) rfl #[.int .i64 a0,.int .i64 10] rfl q46_ ?_;(with_reducible refine (strconv_FormatInt.calls a0 10 t322 _ A2.out).mono ?_);rintro e w3 ⟨rfl,hb⟩;refine ⟨_,rfl,?_⟩;replace HB:=Aside0.mk (below_step q50_ hb);(try clear hb)))
 go_ret
 exact ⟨q53_,q50_⟩
def impl_names.f (a0:ByteArray):Option (List ByteArray):=(strings_Split.f a0 (⟨#[32]⟩:ByteArray)).bind fun t323 => (some t323)
theorem impl_names.calls (a0:ByteArray) (r:List ByteArray) (w:World) (h:impl_names.f a0 = some r) (hG:Go.Proofs.YtodlnnoekccmmaaGreatDoor.LibW.GL w:=by first | exact hG | exact hG.below q4_ | exact hG.drewN _) :
  Calls Tryz.prog 97 #[.string a0] w fun e w' => ∃ v0_:Value,e = .returned (v0_) ∧ Kd.R Kd.string 9 w' w.heap.size (fun _ => True) v0_ r ∧ Below w.heap.size w w':=by
 have HB:=Aside0.mk (Below.refl w.heap.size w)
 have H:((strings_Split.f a0 (⟨#[32]⟩:ByteArray)).bind fun t323 => (some t323)) = some r:=h
 clear h
 replace H:=Option.bind_eq_some_iff.mp H
 obtain ⟨t323,A20,H⟩:=H
 have A2:=Aside0.mk A20
 clear A20
 obtain rfl:=Option.some.inj H
 go_enter Tryz.func97,Tryz.ntmps97
 go_wp2_with (first | ((with_reducible refine gate_callee (f:=131) rfl ?_);refine goesL_ (some 4) rfl rfl Tryz.func131 (by kernel_rfl) rfl #[.string a0,.string (⟨#[32]⟩:ByteArray)] rfl q46_ ?_;(with_reducible refine (strings_Split.calls a0 (⟨#[32]⟩:ByteArray) t323 _ A2.out).mono ?_);rintro e w3 ⟨v324,rfl,ho0,hb⟩;refine ⟨_,rfl,?_⟩;have n0_:=Aside0.mk (Kd.R_lower ho0 (below_size q50_));have n1_:=Aside0.mk (below_step q50_ hb);clear HB;have HO325:=n0_;have HB:=n1_;clear n0_ n1_;(try clear hb);(try clear ho0)))
 go_ret
 exact ⟨_,q53_,by (with_reducible repeat (first | apply Kd.R_alloc | apply Kd.R_drewN | apply Kd.R_drew));exact HO325.out,q50_⟩
def impl_regs.f :Option (List ByteArray):=(impl_names.f (⟨#[98,32,99,32,100,32,101,32,104,32,108,32,91,104,108,93,32,97]⟩:ByteArray)).bind fun t326 => (some t326)
theorem impl_regs.calls  (r:List ByteArray) (w:World) (h:impl_regs.f  = some r) (hG:Go.Proofs.YtodlnnoekccmmaaGreatDoor.LibW.GL w:=by first | exact hG | exact hG.below q4_ | exact hG.drewN _) :
  Calls Tryz.prog 96 #[] w fun e w' => ∃ v0_:Value,e = .returned (v0_) ∧ Kd.R Kd.string 9 w' w.heap.size (fun _ => True) v0_ r ∧ Below w.heap.size w w':=by
 have HB:=Aside0.mk (Below.refl w.heap.size w)
 have H:((impl_names.f (⟨#[98,32,99,32,100,32,101,32,104,32,108,32,91,104,108,93,32,97]⟩:ByteArray)).bind fun t326 => (some t326)) = some r:=h
 clear h
 replace H:=Option.bind_eq_some_iff.mp H
 obtain ⟨t326,A10,H⟩:=H
 have A1:=Aside0.mk A10
 clear A10
 obtain rfl:=Option.some.inj H
 go_enter Tryz.func96,Tryz.ntmps96
 go_wp2_with (first | ((with_reducible refine gate_callee (f:=97) rfl ?_);refine goesL_ (some 1) rfl rfl Tryz.func97 (by kernel_rfl) rfl #[.string (⟨#[98,32,99,32,100,32,101,32,104,32,108,32,91,104,108,93,32,97]⟩:ByteArray)] rfl q46_ ?_;(with_reducible refine (impl_names.calls (⟨#[98,32,99,32,100,32,101,32,104,32,108,32,91,104,108,93,32,97]⟩:ByteArray) t326 _ A1.out).mono ?_);rintro e w2 ⟨v327,rfl,ho0,hb⟩;refine ⟨_,rfl,?_⟩;have n0_:=Aside0.mk (Kd.R_lower ho0 (below_size q50_));have n1_:=Aside0.mk (below_step q50_ hb);clear HB;have HO328:=n0_;have HB:=n1_;clear n0_ n1_;(try clear hb);(try clear ho0)))
 go_ret
 exact ⟨_,q53_,by (with_reducible repeat (first | apply Kd.R_alloc | apply Kd.R_drewN | apply Kd.R_drew));exact HO328.out,q50_⟩
def impl_turns.f :Option (List ByteArray):=(impl_names.f (⟨#[114,108,99,32,114,114,99,32,114,108,32,114,114,32,115,108,97,32,115,114,97,32,115,119,97,112,32,115,114,108]⟩:ByteArray)).bind fun t329 => (some t329)
theorem impl_turns.calls  (r:List ByteArray) (w:World) (h:impl_turns.f  = some r) (hG:Go.Proofs.YtodlnnoekccmmaaGreatDoor.LibW.GL w:=by first | exact hG | exact hG.below q4_ | exact hG.drewN _) :
  Calls Tryz.prog 128 #[] w fun e w' => ∃ v0_:Value,e = .returned (v0_) ∧ Kd.R Kd.string 9 w' w.heap.size (fun _ => True) v0_ r ∧ Below w.heap.size w w':=by
 have HB:=Aside0.mk (Below.refl w.heap.size w)
 have H:((impl_names.f (⟨#[114,108,99,32,114,114,99,32,114,108,32,114,114,32,115,108,97,32,115,114,97,32,115,119,97,112,32,115,114,108]⟩:ByteArray)).bind fun t329 => (some t329)) = some r:=h
 clear h
 replace H:=Option.bind_eq_some_iff.mp H
 obtain ⟨t329,A10,H⟩:=H
 have A1:=Aside0.mk A10
 clear A10
 obtain rfl:=Option.some.inj H
 go_enter Tryz.func128,Tryz.ntmps128
 go_wp2_with (first | ((with_reducible refine gate_callee (f:=97) rfl ?_);refine goesL_ (some 1) rfl rfl Tryz.func97 (by kernel_rfl) rfl #[.string (⟨#[114,108,99,32,114,114,99,32,114,108,32,114,114,32,115,108,97,32,115,114,97,32,115,119,97,112,32,115,114,108]⟩:ByteArray)] rfl q46_ ?_;(with_reducible refine (impl_names.calls (⟨#[114,108,99,32,114,114,99,32,114,108,32,114,114,32,115,108,97,32,115,114,97,32,115,119,97,112,32,115,114,108]⟩:ByteArray) t329 _ A1.out).mono ?_);rintro e w2 ⟨v330,rfl,ho0,hb⟩;refine ⟨_,rfl,?_⟩;have n0_:=Aside0.mk (Kd.R_lower ho0 (below_size q50_));have n1_:=Aside0.mk (below_step q50_ hb);clear HB;have HO331:=n0_;have HB:=n1_;clear n0_ n1_;(try clear hb);(try clear ho0)))
 go_ret
 exact ⟨_,q53_,by (with_reducible repeat (first | apply Kd.R_alloc | apply Kd.R_drewN | apply Kd.R_drew));exact HO331.out,q50_⟩
end Go.Proofs.YtodlnnoekccmmaaGreatDoor.QFnExactListed
