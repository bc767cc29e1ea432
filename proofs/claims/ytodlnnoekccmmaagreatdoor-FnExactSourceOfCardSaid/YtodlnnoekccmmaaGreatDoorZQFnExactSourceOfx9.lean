/- The machine's side of a law,written by a program of this session for this claim. -/
import Derived.Test.YtodlnnoekccmmaaGreatDoorZQq
import Derived.Test.YtodlnnoekccmmaaGreatDoorZQFnExactSourceOfx0
import Derived.Test.YtodlnnoekccmmaaGreatDoorZQFnExactSourceOfx1
import Derived.Test.YtodlnnoekccmmaaGreatDoorZQFnExactSourceOfx8
namespace Go.Proofs.YtodlnnoekccmmaaGreatDoor.QFnExactSourceOf
open Go.Proofs.YtodlnnoekccmmaaGreatDoor.Qq
open Go.RowKit Go.Proofs.YtodlnnoekccmmaaGreatDoor.LibX Go.Proofs.YtodlnnoekccmmaaGreatDoor.LibE Go.Proofs.YtodlnnoekccmmaaGreatDoorW.PrintWords Go.Proofs.YtodlnnoekccmmaaGreatDoorW.PrintLast Go.Proofs.YtodlnnoekccmmaaGreatDoorW.PrintMore
attribute [local go_sem] max2_int min2_int max_two min_two max_three min_three max_four min_four   -- for this text's walks alone
set_option maxHeartbeats 8000000
set_option maxRecDepth 100000
set_option linter.unusedVariables false
set_option linter.unusedSimpArgs false
def spec_Listed.f (k:Nat) (a0:ByteArray) (a1:Int):Option (List ByteArray × Bool):=(spec_l5Banks.f a0).bind fun t312 => ((spec_l1In.f a1 0 (wrap64 (t312 - 1))).bind fun t313 => (if t313 = true then (if a1 > 0 then (if 0 ≤ (wrap64 (a1 * 256)) then (if (wrap64 (a1 * 256)) ≤ (wrap64 ((wrap64 (a1 + 1)) * 256)) then (if (wrap64 ((wrap64 (a1 + 1)) * 256)) ≤ (a0.size:Int) then ((spec_l13Listed.f k (a0.extract ((wrap64 (a1 * 256)):Int).toNat ((wrap64 ((wrap64 (a1 + 1)) * 256)):Int).toNat) 256).bind fun t314 => (some (t314,true))) else (none)) else (none)) else (none)) else (if 0 ≤ (wrap64 (a1 * 256)) then (if (wrap64 (a1 * 256)) ≤ (wrap64 ((wrap64 (a1 + 1)) * 256)) then (if (wrap64 ((wrap64 (a1 + 1)) * 256)) ≤ (a0.size:Int) then ((spec_l13Listed.f k (a0.extract ((wrap64 (a1 * 256)):Int).toNat ((wrap64 ((wrap64 (a1 + 1)) * 256)):Int).toNat) 0).bind fun t317 => (some (t317,true))) else (none)) else (none)) else (none))) else (some (([]:List ByteArray),false))))
theorem spec_Listed.mono:∀ a0 a1 k,LeO (spec_Listed.f k a0 a1) (spec_Listed.f (k + 1) a0 a1):=by
 intro a0 a1 k
 unfold spec_Listed.f
 repeat' first
   | (with_reducible first | exact spec_l13Listed.mono _ _ _ | exact LeO.refl _ | exact LeO.none _ | refine LeO.ite ?_ ?_ | refine LeO.bind ?_ (fun _ => ?_))
   | exact spec_l13Listed.mono _ _ _
   | exact LeO.none _
   | refine LeO.ite ?_ ?_
   | refine LeO.bind ?_ (fun _ => ?_)
theorem spec_Listed.calls (k:Nat) (a0:ByteArray) (a1:Int) (r1:List ByteArray) (r2:Bool) (w:World) (h:spec_Listed.f k a0 a1 = some (r1,r2)) :
  Calls Tryz.prog 36 #[.string a0,.int .i64 a1] w fun e w' => ∃ v0_:Value,e = .returned (.tuple #[v0_,.bool r2]) ∧ Kd.R Kd.string 9 w' w.heap.size (fun _ => True) v0_ r1 ∧ Below w.heap.size w w':=by
 have HB:=Aside0.mk (Below.refl w.heap.size w)
 have H:((spec_l5Banks.f a0).bind fun t312 => ((spec_l1In.f a1 0 (wrap64 (t312 - 1))).bind fun t313 => (if t313 = true then (if a1 > 0 then (if 0 ≤ (wrap64 (a1 * 256)) then (if (wrap64 (a1 * 256)) ≤ (wrap64 ((wrap64 (a1 + 1)) * 256)) then (if (wrap64 ((wrap64 (a1 + 1)) * 256)) ≤ (a0.size:Int) then ((spec_l13Listed.f k (a0.extract ((wrap64 (a1 * 256)):Int).toNat ((wrap64 ((wrap64 (a1 + 1)) * 256)):Int).toNat) 256).bind fun t314 => (some (t314,true))) else (none)) else (none)) else (none)) else (if 0 ≤ (wrap64 (a1 * 256)) then (if (wrap64 (a1 * 256)) ≤ (wrap64 ((wrap64 (a1 + 1)) * 256)) then (if (wrap64 ((wrap64 (a1 + 1)) * 256)) ≤ (a0.size:Int) then ((spec_l13Listed.f k (a0.extract ((wrap64 (a1 * 256)):Int).toNat ((wrap64 ((wrap64 (a1 + 1)) * 256)):Int).toNat) 0).bind fun t317 => (some (t317,true))) else (none)) else (none)) else (none))) else (some (([]:List ByteArray),false))))) = some (r1,r2):=h
 clear h
 replace H:=Option.bind_eq_some_iff.mp H
 obtain ⟨t312,A30,H⟩:=H
 have A3:=Aside0.mk A30
 clear A30
 replace H:=Option.bind_eq_some_iff.mp H
 obtain ⟨t313,A40,H⟩:=H
 have A4:=Aside0.mk A40
 clear A40
 by_cases c5:t313 = true
 ·subst c5
  replace H:(if a1 > 0 then (if 0 ≤ (wrap64 (a1 * 256)) then (if (wrap64 (a1 * 256)) ≤ (wrap64 ((wrap64 (a1 + 1)) * 256)) then (if (wrap64 ((wrap64 (a1 + 1)) * 256)) ≤ (a0.size:Int) then ((spec_l13Listed.f k (a0.extract ((wrap64 (a1 * 256)):Int).toNat ((wrap64 ((wrap64 (a1 + 1)) * 256)):Int).toNat) 256).bind fun t314 => (some (t314,true))) else (none)) else (none)) else (none)) else (if 0 ≤ (wrap64 (a1 * 256)) then (if (wrap64 (a1 * 256)) ≤ (wrap64 ((wrap64 (a1 + 1)) * 256)) then (if (wrap64 ((wrap64 (a1 + 1)) * 256)) ≤ (a0.size:Int) then ((spec_l13Listed.f k (a0.extract ((wrap64 (a1 * 256)):Int).toNat ((wrap64 ((wrap64 (a1 + 1)) * 256)):Int).toNat) 0).bind fun t317 => (some (t317,true))) else (none)) else (none)) else (none))) = some (r1,r2):=by rw [if_pos rfl] at H;exact H
  by_cases c6:a1 > 0
  ·rw [if_pos c6] at H
   have c6b0:decide (0 < a1) = true:=decide_eq_true c6
   clear c6
   obtain ⟨ji7,hji7⟩:∃ j_:Int,(wrap64 (a1 * 256)) = j_:=⟨_,rfl⟩
   replace H:(if 0 ≤ (ji7) then (if (ji7) ≤ (wrap64 ((wrap64 (a1 + 1)) * 256)) then (if (wrap64 ((wrap64 (a1 + 1)) * 256)) ≤ (a0.size:Int) then ((spec_l13Listed.f k (a0.extract ((ji7):Int).toNat ((wrap64 ((wrap64 (a1 + 1)) * 256)):Int).toNat) 256).bind fun t314 => (some (t314,true))) else (none)) else (none)) else (none)) = some (r1,r2):=by first | (rw [hji7] at H;exact H) | (simp only [hji7] at H ⊢;exact H)
   (try rw [hji7] at A3)
   (try rw [hji7] at A4)
   have hji7w:(IntKind.i64.wrap (a1 * 256)) = ji7:=(i64_w _).trans hji7
   by_cases c8:0 ≤ (ji7)
   rotate_left
   ·rw [if_neg c8] at H
    exact absurd H (by simp)
   rw [if_pos c8] at H
   have c8b0:=eq_true c8
   have c8b1:decide (0 ≤ (ji7)) = true:=decide_eq_true c8
   clear c8
   by_cases c9:(ji7) ≤ (wrap64 ((wrap64 (a1 + 1)) * 256))
   rotate_left
   ·rw [if_neg c9] at H
    exact absurd H (by simp)
   rw [if_pos c9] at H
   have c9b0:=eq_true c9
   have c9b1:decide ((ji7) ≤ (wrap64 ((wrap64 (a1 + 1)) * 256))) = true:=decide_eq_true c9
   by_cases c10:(wrap64 ((wrap64 (a1 + 1)) * 256)) ≤ (a0.size:Int)
   rotate_left
   ·rw [if_neg c10] at H
    exact absurd H (by simp)
   rw [if_pos c10] at H
   have c10b0:=eq_true c10
   have c10b1:decide ((wrap64 ((wrap64 (a1 + 1)) * 256)) ≤ (a0.size:Int)) = true:=decide_eq_true c10
   replace H:=Option.bind_eq_some_iff.mp H
   obtain ⟨t314,A110,H⟩:=H
   have A11:=Aside0.mk A110
   clear A110
   simp only [Option.some.injEq,Prod.mk.injEq] at H
   obtain ⟨rfl,rfl⟩:=H
   go_enter Tryz.func36,Tryz.ntmps36
   go_wp2_with (first | ((with_reducible refine gate_callee (f:=76) rfl ?_);refine goesL_ (some 9) rfl rfl Tryz.func76 (by kernel_rfl) rfl #[.string a0] rfl q45_ ?_;(with_reducible refine (spec_l5Banks.calls a0 t312 _ A3.out).mono ?_);rintro e w' ⟨rfl,⟨nd,rfl⟩⟩;refine ⟨_,rfl,?_⟩) | ((with_reducible refine gate_callee (f:=51) rfl ?_);refine goesL_ (some 11) rfl rfl Tryz.func51 (by kernel_rfl) rfl #[.int .i64 a1,.int .i64 0,.int .i64 (wrap64 (t312 - 1))] rfl q7_ ?_;(with_reducible refine (spec_l1In.calls a1 0 (wrap64 (t312 - 1)) true _ A4.out).mono ?_);rintro e w' ⟨rfl,⟨nd,rfl⟩⟩;refine ⟨_,rfl,?_⟩) | ((with_reducible refine gate_callee (f:=86) rfl ?_);refine goesL_ (some 23) rfl rfl Tryz.func86 (by kernel_rfl) rfl #[.string (a0.extract ((ji7):Int).toNat ((wrap64 ((wrap64 (a1 + 1)) * 256)):Int).toNat),.int .i64 256] rfl (by (try simp only [List.map_toArray,List.map_cons,List.map_nil]);first | done | (simp only [hji7];rfl) | rfl | (simp only [List.length_drop,List.length_take];rfl) | (refine Eq.trans (b:=#[.string (a0.extract ((ji7):Int).toNat (((((a1 + 1)) * 256)):Int).toNat),.int .i64 256]) rfl ?_;simp [wrap64] <;> omega)) ?_;(with_reducible refine (spec_l13Listed.calls k (a0.extract ((ji7):Int).toNat ((wrap64 ((wrap64 (a1 + 1)) * 256)):Int).toNat) 256 t314 _ A11.out).mono ?_);rintro e w12 ⟨v315,rfl,ho0,hb⟩;refine ⟨_,rfl,?_⟩;have n0_:=Aside0.mk (Kd.R_lower ho0 (below_size q46_));have n1_:=Aside0.mk (below_step q46_ hb);clear HB;have HO316:=n0_;have HB:=n1_;clear n0_ n1_;(try clear hb);(try clear ho0)))
   go_ret2
   exact ⟨_,by first | rfl | (simp [errW_none,errW_some] <;> rfl) | (simp only [← hji7];first | rfl | (simp [errW_none,errW_some] <;> rfl)) | (simp [*,errW_none,errW_some] <;> rfl) | (exfalso;simp_all;done),by (with_reducible repeat (first | apply Kd.R_alloc | apply Kd.R_drewN | apply Kd.R_drew));exact HO316.out,q46_⟩
  rw [if_neg c6] at H
  have c6b0:decide (0 < a1) = false:=decide_eq_false c6
  clear c6
  obtain ⟨ji13,hji13⟩:∃ j_:Int,(wrap64 (a1 * 256)) = j_:=⟨_,rfl⟩
  replace H:(if 0 ≤ (ji13) then (if (ji13) ≤ (wrap64 ((wrap64 (a1 + 1)) * 256)) then (if (wrap64 ((wrap64 (a1 + 1)) * 256)) ≤ (a0.size:Int) then ((spec_l13Listed.f k (a0.extract ((ji13):Int).toNat ((wrap64 ((wrap64 (a1 + 1)) * 256)):Int).toNat) 0).bind fun t317 => (some (t317,true))) else (none)) else (none)) else (none)) = some (r1,r2):=by first | (rw [hji13] at H;exact H) | (simp only [hji13] at H ⊢;exact H)
  (try rw [hji13] at A3)
  (try rw [hji13] at A4)
  have hji13w:(IntKind.i64.wrap (a1 * 256)) = ji13:=(i64_w _).trans hji13
  by_cases c14:0 ≤ (ji13)
  rotate_left
  ·rw [if_neg c14] at H
   exact absurd H (by simp)
  rw [if_pos c14] at H
  have c14b0:=eq_true c14
  have c14b1:decide (0 ≤ (ji13)) = true:=decide_eq_true c14
  clear c14
  by_cases c15:(ji13) ≤ (wrap64 ((wrap64 (a1 + 1)) * 256))
  rotate_left
  ·rw [if_neg c15] at H
   exact absurd H (by simp)
  rw [if_pos c15] at H
  have c15b0:=eq_true c15
  have c15b1:decide ((ji13) ≤ (wrap64 ((wrap64 (a1 + 1)) * 256))) = true:=decide_eq_true c15
  by_cases c16:(wrap64 ((wrap64 (a1 + 1)) * 256)) ≤ (a0.size:Int)
  rotate_left
  ·rw [if_neg c16] at H
   exact absurd H (by simp)
  rw [if_pos c16] at H
  have c16b0:=eq_true c16
  have c16b1:decide ((wrap64 ((wrap64 (a1 + 1)) * 256)) ≤ (a0.size:Int)) = true:=decide_eq_true c16
  replace H:=Option.bind_eq_some_iff.mp H
  obtain ⟨t317,A170,H⟩:=H
  have A17:=Aside0.mk A170
  clear A170
  simp only [Option.some.injEq,Prod.mk.injEq] at H
  obtain ⟨rfl,rfl⟩:=H
  go_enter Tryz.func36,Tryz.ntmps36
  go_wp2_with (first | ((with_reducible refine gate_callee (f:=76) rfl ?_);refine goesL_ (some 9) rfl rfl Tryz.func76 (by kernel_rfl) rfl #[.string a0] rfl q45_ ?_;(with_reducible refine (spec_l5Banks.calls a0 t312 _ A3.out).mono ?_);rintro e w' ⟨rfl,⟨nd,rfl⟩⟩;refine ⟨_,rfl,?_⟩) | ((with_reducible refine gate_callee (f:=51) rfl ?_);refine goesL_ (some 11) rfl rfl Tryz.func51 (by kernel_rfl) rfl #[.int .i64 a1,.int .i64 0,.int .i64 (wrap64 (t312 - 1))] rfl q7_ ?_;(with_reducible refine (spec_l1In.calls a1 0 (wrap64 (t312 - 1)) true _ A4.out).mono ?_);rintro e w' ⟨rfl,⟨nd,rfl⟩⟩;refine ⟨_,rfl,?_⟩) | ((with_reducible refine gate_callee (f:=86) rfl ?_);refine goesL_ (some 23) rfl rfl Tryz.func86 (by kernel_rfl) rfl #[.string (a0.extract ((ji13):Int).toNat ((wrap64 ((wrap64 (a1 + 1)) * 256)):Int).toNat),.int .i64 0] rfl (by (try simp only [List.map_toArray,List.map_cons,List.map_nil]);first | done | (simp only [hji13];rfl) | rfl | (simp only [List.length_drop,List.length_take];rfl) | (refine Eq.trans (b:=#[.string (a0.extract ((ji13):Int).toNat (((((a1 + 1)) * 256)):Int).toNat),.int .i64 0]) rfl ?_;simp [wrap64] <;> omega)) ?_;(with_reducible refine (spec_l13Listed.calls k (a0.extract ((ji13):Int).toNat ((wrap64 ((wrap64 (a1 + 1)) * 256)):Int).toNat) 0 t317 _ A17.out).mono ?_);rintro e w18 ⟨v318,rfl,ho0,hb⟩;refine ⟨_,rfl,?_⟩;have n0_:=Aside0.mk (Kd.R_lower ho0 (below_size q46_));have n1_:=Aside0.mk (below_step q46_ hb);clear HB;have HO319:=n0_;have HB:=n1_;clear n0_ n1_;(try clear hb);(try clear ho0)))
  go_ret2
  exact ⟨_,q17_,by (with_reducible repeat (first | apply Kd.R_alloc | apply Kd.R_drewN | apply Kd.R_drew));exact HO319.out,q46_⟩
 replace c5:=Bool.eq_false_iff.mpr c5
 subst c5
 replace H:(some (([]:List ByteArray),false)) = some (r1,r2):=by rw [if_neg (show ¬ (false = true) by decide)] at H;exact H
 simp only [Option.some.injEq,Prod.mk.injEq] at H
 obtain ⟨rfl,rfl⟩:=H
 go_enter Tryz.func36,Tryz.ntmps36
 go_wp2_with (first | ((with_reducible refine gate_callee (f:=76) rfl ?_);refine goesL_ (some 9) rfl rfl Tryz.func76 (by kernel_rfl) rfl #[.string a0] rfl q45_ ?_;(with_reducible refine (spec_l5Banks.calls a0 t312 _ A3.out).mono ?_);rintro e w' ⟨rfl,⟨nd,rfl⟩⟩;refine ⟨_,rfl,?_⟩) | ((with_reducible refine gate_callee (f:=51) rfl ?_);refine goesL_ (some 11) rfl rfl Tryz.func51 (by kernel_rfl) rfl #[.int .i64 a1,.int .i64 0,.int .i64 (wrap64 (t312 - 1))] rfl q7_ ?_;(with_reducible refine (spec_l1In.calls a1 0 (wrap64 (t312 - 1)) false _ A4.out).mono ?_);rintro e w' ⟨rfl,⟨nd,rfl⟩⟩;refine ⟨_,rfl,?_⟩))
 go_ret2
 exact ⟨_,q49_,q43_,q46_⟩
mutual
def spec_SourceOf.l0:Nat → ByteArray → ByteArray → Int → Int → Option (ByteArray × Bool)
 | 0,_,_,_,_ => none
 | k + 1,x0,x4,x5,x6 => (spec_l5Banks.f x0).bind fun t322 => (if x6 < t322 then (if x6 = 0 then (if x4.size + 21 ≤ 9223372036854775807 then (spec_SourceOf.j1 k x0 (x4 ++ (⟨#[115,101,99,116,105,111,110,32,98,97,110,107,48,44,114,111,109,48,44,48,10]⟩:ByteArray)) x5 x6) else (none)) else (if x4.size + 12 ≤ 9223372036854775807 then ((spec_l1Dec.f k x6).bind fun t323 => (if (x4 ++ (⟨#[115,101,99,116,105,111,110,32,98,97,110,107]⟩:ByteArray)).size + t323.size ≤ 9223372036854775807 then (if ((x4 ++ (⟨#[115,101,99,116,105,111,110,32,98,97,110,107]⟩:ByteArray)) ++ t323).size + 10 ≤ 9223372036854775807 then ((spec_l1Dec.f k x6).bind fun t324 => (if (((x4 ++ (⟨#[115,101,99,116,105,111,110,32,98,97,110,107]⟩:ByteArray)) ++ t323) ++ (⟨#[44,114,111,109,120,44,50,53,54,44]⟩:ByteArray)).size + t324.size ≤ 9223372036854775807 then (if ((((x4 ++ (⟨#[115,101,99,116,105,111,110,32,98,97,110,107]⟩:ByteArray)) ++ t323) ++ (⟨#[44,114,111,109,120,44,50,53,54,44]⟩:ByteArray)) ++ t324).size + 1 ≤ 9223372036854775807 then (spec_SourceOf.j1 k x0 (((((x4 ++ (⟨#[115,101,99,116,105,111,110,32,98,97,110,107]⟩:ByteArray)) ++ t323) ++ (⟨#[44,114,111,109,120,44,50,53,54,44]⟩:ByteArray)) ++ t324) ++ (⟨#[10]⟩:ByteArray)) x5 x6) else (none)) else (none))) else (none)) else (none))) else (none))) else (if x5 > 1500 then (some ((⟨#[]⟩:ByteArray),false)) else (if (x4.size:Int) > 40000 then (some ((⟨#[]⟩:ByteArray),false)) else (some (x4,true)))))
def spec_SourceOf.j1:Nat → ByteArray → ByteArray → Int → Int → Option (ByteArray × Bool)
 | 0,_,_,_,_ => none
 | k + 1,x0,x4,x5,x6 => (spec_Listed.f k x0 x6).bind fun bt325 => (spec_SourceOf.l1 k x0 x4 (wrap64 ((wrap64 (x5 + (bt325.1.length:Int))) + 1)) x6 bt325.1 0)
def spec_SourceOf.l1:Nat → ByteArray → ByteArray → Int → Int → List ByteArray → Int → Option (ByteArray × Bool)
 | 0,_,_,_,_,_,_ => none
 | k + 1,x0,x4,x5,x6,x7,x9 => if x9 < (x7.length:Int) then (if 0 ≤ x9 then (if x4.size + (rdOf ByteArray.empty x7 x9).size ≤ 9223372036854775807 then (if (x4 ++ (rdOf ByteArray.empty x7 x9)).size + 1 ≤ 9223372036854775807 then (spec_SourceOf.l1 k x0 ((x4 ++ (rdOf ByteArray.empty x7 x9)) ++ (⟨#[10]⟩:ByteArray)) x5 x6 x7 (wrap64 (x9 + 1))) else (none)) else (none)) else (none)) else (spec_SourceOf.l0 k x0 x4 x5 (wrap64 (x6 + 1)))
end
def spec_SourceOf.f (k:Nat) (a0:ByteArray):Option (ByteArray × Bool):=(spec_l5Banks.f a0).bind fun t320 => ((spec_l1In.f t320 2 12).bind fun t321 => (if t321 = true then (spec_SourceOf.l0 k a0 (⟨#[]⟩:ByteArray) 0 0) else (some ((⟨#[]⟩:ByteArray),false))))
theorem spec_SourceOf.mono_l:∀ k,(∀ y0 y1 y2 y3,LeO (spec_SourceOf.l0 k y0 y1 y2 y3) (spec_SourceOf.l0 (k + 1) y0 y1 y2 y3)) ∧ (∀ y0 y1 y2 y3,LeO (spec_SourceOf.j1 k y0 y1 y2 y3) (spec_SourceOf.j1 (k + 1) y0 y1 y2 y3)) ∧ (∀ y0 y1 y2 y3 y4 y5,LeO (spec_SourceOf.l1 k y0 y1 y2 y3 y4 y5) (spec_SourceOf.l1 (k + 1) y0 y1 y2 y3 y4 y5))
 | 0 => ⟨fun _ _ _ _ r h => by simp [spec_SourceOf.l0] at h,fun _ _ _ _ r h => by simp [spec_SourceOf.j1] at h,fun _ _ _ _ _ _ r h => by simp [spec_SourceOf.l1] at h⟩
 | k + 1 => by
  obtain ⟨ih0,ih1,ih2⟩:=spec_SourceOf.mono_l k
  refine ⟨?_,?_,?_⟩
  ·intro y0 y1 y2 y3
   unfold spec_SourceOf.l0
   repeat' first
   | (with_reducible first | exact ih0 _ _ _ _ | exact ih1 _ _ _ _ | exact ih2 _ _ _ _ _ _ | exact spec_Listed.mono _ _ _ | exact spec_l1Dec.mono _ _ | exact LeO.refl _ | exact LeO.none _ | refine LeO.ite ?_ ?_ | refine LeO.bind ?_ (fun _ => ?_))
   | exact ih0 _ _ _ _
   | exact ih1 _ _ _ _
   | exact ih2 _ _ _ _ _ _
   | exact spec_Listed.mono _ _ _
   | exact spec_l1Dec.mono _ _
   | exact LeO.none _
   | refine LeO.ite ?_ ?_
   | refine LeO.bind ?_ (fun _ => ?_)
  ·intro y0 y1 y2 y3
   unfold spec_SourceOf.j1
   repeat' first
   | (with_reducible first | exact ih0 _ _ _ _ | exact ih1 _ _ _ _ | exact ih2 _ _ _ _ _ _ | exact spec_Listed.mono _ _ _ | exact spec_l1Dec.mono _ _ | exact LeO.refl _ | exact LeO.none _ | refine LeO.ite ?_ ?_ | refine LeO.bind ?_ (fun _ => ?_))
   | exact ih0 _ _ _ _
   | exact ih1 _ _ _ _
   | exact ih2 _ _ _ _ _ _
   | exact spec_Listed.mono _ _ _
   | exact spec_l1Dec.mono _ _
   | exact LeO.none _
   | refine LeO.ite ?_ ?_
   | refine LeO.bind ?_ (fun _ => ?_)
  intro y0 y1 y2 y3 y4 y5
  unfold spec_SourceOf.l1
  repeat' first
  | (with_reducible first | exact ih0 _ _ _ _ | exact ih1 _ _ _ _ | exact ih2 _ _ _ _ _ _ | exact spec_Listed.mono _ _ _ | exact spec_l1Dec.mono _ _ | exact LeO.refl _ | exact LeO.none _ | refine LeO.ite ?_ ?_ | refine LeO.bind ?_ (fun _ => ?_))
  | exact ih0 _ _ _ _
  | exact ih1 _ _ _ _
  | exact ih2 _ _ _ _ _ _
  | exact spec_Listed.mono _ _ _
  | exact spec_l1Dec.mono _ _
  | exact LeO.none _
  | refine LeO.ite ?_ ?_
  | refine LeO.bind ?_ (fun _ => ?_)
theorem spec_SourceOf.mono:∀ a0 k,LeO (spec_SourceOf.f k a0) (spec_SourceOf.f (k + 1) a0):=by
 intro a0 k
 obtain ⟨ih0,ih1,ih2⟩:=spec_SourceOf.mono_l k
 unfold spec_SourceOf.f
 repeat' first
   | (with_reducible first | exact ih0 _ _ _ _ | exact ih1 _ _ _ _ | exact ih2 _ _ _ _ _ _ | exact spec_Listed.mono _ _ _ | exact spec_l1Dec.mono _ _ | exact LeO.refl _ | exact LeO.none _ | refine LeO.ite ?_ ?_ | refine LeO.bind ?_ (fun _ => ?_))
   | exact ih0 _ _ _ _
   | exact ih1 _ _ _ _
   | exact ih2 _ _ _ _ _ _
   | exact spec_Listed.mono _ _ _
   | exact spec_l1Dec.mono _ _
   | exact LeO.none _
   | refine LeO.ite ?_ ?_
   | refine LeO.bind ?_ (fun _ => ?_)
theorem spec_SourceOf.calls (k:Nat) (a0:ByteArray) (r1:ByteArray) (r2:Bool) (w:World) (h:spec_SourceOf.f k a0 = some (r1,r2)) :
  Calls Tryz.prog 41 #[.string a0] w fun e w' => e = .returned (.tuple #[.string r1,.bool r2]) ∧ Below w.heap.size w w':=by
 have HB:=Aside0.mk (Below.refl w.heap.size w)
 have H:((spec_l5Banks.f a0).bind fun t320 => ((spec_l1In.f t320 2 12).bind fun t321 => (if t321 = true then (spec_SourceOf.l0 k a0 (⟨#[]⟩:ByteArray) 0 0) else (some ((⟨#[]⟩:ByteArray),false))))) = some (r1,r2):=h
 clear h
 replace H:=Option.bind_eq_some_iff.mp H
 obtain ⟨t320,A20,H⟩:=H
 have A2:=Aside0.mk A20
 clear A20
 replace H:=Option.bind_eq_some_iff.mp H
 obtain ⟨t321,A30,H⟩:=H
 have A3:=Aside0.mk A30
 clear A30
 by_cases c4:t321 = true
 ·subst c4
  replace H:(spec_SourceOf.l0 k a0 (⟨#[]⟩:ByteArray) 0 0) = some (r1,r2):=by rw [if_pos rfl] at H;exact H
  have H':=Aside0.mk H
  clear H
  go_enter Tryz.func41,Tryz.ntmps41
  go_wp2_with (first | ((with_reducible refine gate_callee (f:=76) rfl ?_);refine goesL_ (some 11) rfl rfl Tryz.func76 (by kernel_rfl) rfl #[.string a0] rfl q45_ ?_;(with_reducible refine (spec_l5Banks.calls a0 t320 _ A2.out).mono ?_);rintro e w' ⟨rfl,⟨nd,rfl⟩⟩;refine ⟨_,rfl,?_⟩) | ((with_reducible refine gate_callee (f:=51) rfl ?_);refine goesL_ (some 12) rfl rfl Tryz.func51 (by kernel_rfl) rfl #[.int .i64 t320,.int .i64 2,.int .i64 12] rfl q45_ ?_;(with_reducible refine (spec_l1In.calls t320 2 12 true _ A3.out).mono ?_);rintro e w' ⟨rfl,⟨nd,rfl⟩⟩;refine ⟨_,rfl,?_⟩))
  go_loopg [4,5,6] k (fun kq v4 v5 v6 w' => ∃ (x4_1:ByteArray) (x5_1:Int) (x6_1:Int),v4 = .string x4_1 ∧ v5 = .int .i64 x5_1 ∧ v6 = .int .i64 x6_1 ∧ Aside0 (spec_SourceOf.l0 kq a0 x4_1 x5_1 x6_1 = some (r1,r2)) ∧ Aside0 (kq ≤ k) ∧ Aside0 (Below w.heap.size w w'))
  case atStart => exact ⟨((⟨#[]⟩:ByteArray)),(0),(0),q65_,q65_,q65_,H',⟨Nat.le_refl _⟩,⟨q46_⟩⟩
  clear H'
  try clear p2
  try clear c4
  obtain ⟨x4_1,x5_1,x6_1,rfl,rfl,rfl,HA,HK1,HB⟩:=hrel
  cases gk with
  | zero => exact absurd HA.out (by simp [spec_SourceOf.l0])
  | succ k1 =>
   have H:=HA.out
   clear HA
   simp only [spec_SourceOf.l0] at H
   replace H:=Option.bind_eq_some_iff.mp H
   obtain ⟨t322,A50,H⟩:=H
   have A5:=Aside0.mk A50
   clear A50
   by_cases c6:x6_1 < t322
   ·rw [if_pos c6] at H
    have c6b0:decide (x6_1 < t322) = true:=decide_eq_true c6
    clear c6
    have HC7:=Aside0.mk H
    clear H
    go_upto_if 21 with (first | ((with_reducible refine gate_callee (f:=76) rfl ?_);refine goesL_ (some 16) rfl rfl Tryz.func76 (by kernel_rfl) rfl #[.string a0] rfl q45_ ?_;(with_reducible refine (spec_l5Banks.calls a0 t322 _ A5.out).mono ?_);rintro e w' ⟨rfl,⟨nd,rfl⟩⟩;refine ⟨_,rfl,?_⟩))
    (try simp only [Act.put,List.setIfInBounds_toArray,List.set_cons_zero,List.set_cons_succ])
    go_cut [4] (fun v4 wc => ∃ (kq:Nat) (x4_6:ByteArray),v4 = .string x4_6 ∧ Aside0 (spec_SourceOf.j1 kq a0 x4_6 x5_1 x6_1 = some (r1,r2)) ∧ Aside0 (kq ≤ k1) ∧ Aside0 (Below w.heap.size w wc))
    case first =>
     have H:=HC7.out
     clear HC7
     by_cases c8:x6_1 = 0
     ·rw [if_pos c8] at H
      have c8b0:(x6_1 == 0) = true:=beq_iff_eq.mpr c8
      have c8b1:(x6_1 != 0) = false:=bne_eq_false_iff_eq.mpr c8
      clear c8
      (first | rw [c8b0] | (simp only [i64_w,i32_w];rw [c8b0]) | skip)
      by_cases c9:x4_1.size + 21 ≤ 9223372036854775807
      rotate_left
      ·rw [if_neg c9] at H
       exact absurd H (by simp)
      rw [if_pos c9] at H
      have c9b0:=eq_true c9
      have c9b1:decide (x4_1.size + 21 ≤ 9223372036854775807) = true:=decide_eq_true c9
      try have c9b2:(9223372036854775807 < x4_1.size + 21) = False:=eq_false (Nat.not_lt.2 c9)
      have H':=Aside0.mk H
      clear H
      go_wp2
      go_meet
      case rel => exact ⟨_,(x4_1 ++ (⟨#[115,101,99,116,105,111,110,32,98,97,110,107,48,44,114,111,109,48,44,48,10]⟩:ByteArray)),q65_,H',⟨q83_⟩,⟨q46_⟩⟩
     rw [if_neg c8] at H
     have c8b0:(x6_1 == 0) = false:=beq_eq_false_iff_ne.mpr c8
     have c8b1:(x6_1 != 0) = true:=bne_iff_ne.mpr c8
     (first | rw [c8b0] | (simp only [i64_w,i32_w];rw [c8b0]) | skip)
     by_cases c10:x4_1.size + 12 ≤ 9223372036854775807
     rotate_left
     ·rw [if_neg c10] at H
      exact absurd H (by simp)
     rw [if_pos c10] at H
     have c10b0:=eq_true c10
     have c10b1:decide (x4_1.size + 12 ≤ 9223372036854775807) = true:=decide_eq_true c10
     try have c10b2:(9223372036854775807 < x4_1.size + 12) = False:=eq_false (Nat.not_lt.2 c10)
     replace H:=Option.bind_eq_some_iff.mp H
     obtain ⟨t323,A110,H⟩:=H
     have A11:=Aside0.mk A110
     clear A110
     by_cases c12:(x4_1 ++ (⟨#[115,101,99,116,105,111,110,32,98,97,110,107]⟩:ByteArray)).size + t323.size ≤ 9223372036854775807
     rotate_left
     ·rw [if_neg c12] at H
      exact absurd H (by simp)
     rw [if_pos c12] at H
     have c12b0:=eq_true c12
     (try (have c12b0e:=c12b0;simp only [ByteArray.size_append,ByteArray.size_extract,Nat.min_self,Nat.sub_zero,show (⟨#[115,101,99,116,105,111,110,32,98,97,110,107]⟩:ByteArray).size = 12 from rfl] at c12b0e))
     have c12b1:decide ((x4_1 ++ (⟨#[115,101,99,116,105,111,110,32,98,97,110,107]⟩:ByteArray)).size + t323.size ≤ 9223372036854775807) = true:=decide_eq_true c12
     (try (have c12b1e:=c12b1;simp only [ByteArray.size_append,ByteArray.size_extract,Nat.min_self,Nat.sub_zero,show (⟨#[115,101,99,116,105,111,110,32,98,97,110,107]⟩:ByteArray).size = 12 from rfl] at c12b1e))
     try have c12b2:(9223372036854775807 < (x4_1 ++ (⟨#[115,101,99,116,105,111,110,32,98,97,110,107]⟩:ByteArray)).size + t323.size) = False:=eq_false (Nat.not_lt.2 c12)
     (try (have c12b2e:=c12b2;simp only [ByteArray.size_append,ByteArray.size_extract,Nat.min_self,Nat.sub_zero,show (⟨#[115,101,99,116,105,111,110,32,98,97,110,107]⟩:ByteArray).size = 12 from rfl] at c12b2e))
     by_cases c13:((x4_1 ++ (⟨#[115,101,99,116,105,111,110,32,98,97,110,107]⟩:ByteArray)) ++ t323).size + 10 ≤ 9223372036854775807
     rotate_left
     ·rw [if_neg c13] at H
      exact absurd H (by simp)
     rw [if_pos c13] at H
     have c13b0:=eq_true c13
     (try (have c13b0e:=c13b0;simp only [ByteArray.size_append,ByteArray.size_extract,Nat.min_self,Nat.sub_zero,show (⟨#[115,101,99,116,105,111,110,32,98,97,110,107]⟩:ByteArray).size = 12 from rfl] at c13b0e))
     have c13b1:decide (((x4_1 ++ (⟨#[115,101,99,116,105,111,110,32,98,97,110,107]⟩:ByteArray)) ++ t323).size + 10 ≤ 9223372036854775807) = true:=decide_eq_true c13
     (try (have c13b1e:=c13b1;simp only [ByteArray.size_append,ByteArray.size_extract,Nat.min_self,Nat.sub_zero,show (⟨#[115,101,99,116,105,111,110,32,98,97,110,107]⟩:ByteArray).size = 12 from rfl] at c13b1e))
     try have c13b2:(9223372036854775807 < ((x4_1 ++ (⟨#[115,101,99,116,105,111,110,32,98,97,110,107]⟩:ByteArray)) ++ t323).size + 10) = False:=eq_false (Nat.not_lt.2 c13)
     (try (have c13b2e:=c13b2;simp only [ByteArray.size_append,ByteArray.size_extract,Nat.min_self,Nat.sub_zero,show (⟨#[115,101,99,116,105,111,110,32,98,97,110,107]⟩:ByteArray).size = 12 from rfl] at c13b2e))
     replace H:=Option.bind_eq_some_iff.mp H
     obtain ⟨t324,A140,H⟩:=H
     have A14:=Aside0.mk A140
     clear A140
     by_cases c15:(((x4_1 ++ (⟨#[115,101,99,116,105,111,110,32,98,97,110,107]⟩:ByteArray)) ++ t323) ++ (⟨#[44,114,111,109,120,44,50,53,54,44]⟩:ByteArray)).size + t324.size ≤ 9223372036854775807
     rotate_left
     ·rw [if_neg c15] at H
      exact absurd H (by simp)
     rw [if_pos c15] at H
     have c15b0:=eq_true c15
     (try (have c15b0e:=c15b0;simp only [ByteArray.size_append,ByteArray.size_extract,Nat.min_self,Nat.sub_zero,show (⟨#[115,101,99,116,105,111,110,32,98,97,110,107]⟩:ByteArray).size = 12 from rfl,show (⟨#[44,114,111,109,120,44,50,53,54,44]⟩:ByteArray).size = 10 from rfl] at c15b0e))
     have c15b1:decide ((((x4_1 ++ (⟨#[115,101,99,116,105,111,110,32,98,97,110,107]⟩:ByteArray)) ++ t323) ++ (⟨#[44,114,111,109,120,44,50,53,54,44]⟩:ByteArray)).size + t324.size ≤ 9223372036854775807) = true:=decide_eq_true c15
     (try (have c15b1e:=c15b1;simp only [ByteArray.size_append,ByteArray.size_extract,Nat.min_self,Nat.sub_zero,show (⟨#[115,101,99,116,105,111,110,32,98,97,110,107]⟩:ByteArray).size = 12 from rfl,show (⟨#[44,114,111,109,120,44,50,53,54,44]⟩:ByteArray).size = 10 from rfl] at c15b1e))
     try have c15b2:(9223372036854775807 < (((x4_1 ++ (⟨#[115,101,99,116,105,111,110,32,98,97,110,107]⟩:ByteArray)) ++ t323) ++ (⟨#[44,114,111,109,120,44,50,53,54,44]⟩:ByteArray)).size + t324.size) = False:=eq_false (Nat.not_lt.2 c15)
     (try (have c15b2e:=c15b2;simp only [ByteArray.size_append,ByteArray.size_extract,Nat.min_self,Nat.sub_zero,show (⟨#[115,101,99,116,105,111,110,32,98,97,110,107]⟩:ByteArray).size = 12 from rfl,show (⟨#[44,114,111,109,120,44,50,53,54,44]⟩:ByteArray).size = 10 from rfl] at c15b2e))
     by_cases c16:((((x4_1 ++ (⟨#[115,101,99,116,105,111,110,32,98,97,110,107]⟩:ByteArray)) ++ t323) ++ (⟨#[44,114,111,109,120,44,50,53,54,44]⟩:ByteArray)) ++ t324).size + 1 ≤ 9223372036854775807
     rotate_left
     ·rw [if_neg c16] at H
      exact absurd H (by simp)
     rw [if_pos c16] at H
     have c16b0:=eq_true c16
     (try (have c16b0e:=c16b0;simp only [ByteArray.size_append,ByteArray.size_extract,Nat.min_self,Nat.sub_zero,show (⟨#[115,101,99,116,105,111,110,32,98,97,110,107]⟩:ByteArray).size = 12 from rfl,show (⟨#[44,114,111,109,120,44,50,53,54,44]⟩:ByteArray).size = 10 from rfl] at c16b0e))
     have c16b1:decide (((((x4_1 ++ (⟨#[115,101,99,116,105,111,110,32,98,97,110,107]⟩:ByteArray)) ++ t323) ++ (⟨#[44,114,111,109,120,44,50,53,54,44]⟩:ByteArray)) ++ t324).size + 1 ≤ 9223372036854775807) = true:=decide_eq_true c16
     (try (have c16b1e:=c16b1;simp only [ByteArray.size_append,ByteArray.size_extract,Nat.min_self,Nat.sub_zero,show (⟨#[115,101,99,116,105,111,110,32,98,97,110,107]⟩:ByteArray).size = 12 from rfl,show (⟨#[44,114,111,109,120,44,50,53,54,44]⟩:ByteArray).size = 10 from rfl] at c16b1e))
     try have c16b2:(9223372036854775807 < ((((x4_1 ++ (⟨#[115,101,99,116,105,111,110,32,98,97,110,107]⟩:ByteArray)) ++ t323) ++ (⟨#[44,114,111,109,120,44,50,53,54,44]⟩:ByteArray)) ++ t324).size + 1) = False:=eq_false (Nat.not_lt.2 c16)
     (try (have c16b2e:=c16b2;simp only [ByteArray.size_append,ByteArray.size_extract,Nat.min_self,Nat.sub_zero,show (⟨#[115,101,99,116,105,111,110,32,98,97,110,107]⟩:ByteArray).size = 12 from rfl,show (⟨#[44,114,111,109,120,44,50,53,54,44]⟩:ByteArray).size = 10 from rfl] at c16b2e))
     have H':=Aside0.mk H
     clear H
     go_wp2_with (first | ((with_reducible refine gate_callee (f:=71) rfl ?_);refine goesL_ (some 27) rfl rfl Tryz.func71 (by kernel_rfl) rfl #[.int .i64 x6_1] rfl q45_ ?_;(with_reducible refine (spec_l1Dec.calls k1 x6_1 t323 _ A11.out).mono ?_);rintro e w17 ⟨rfl,hb⟩;refine ⟨_,rfl,?_⟩;replace HB:=Aside0.mk (below_step q46_ hb);(try clear hb)) | ((with_reducible refine gate_callee (f:=71) rfl ?_);refine goesL_ (some 31) rfl rfl Tryz.func71 (by kernel_rfl) rfl #[.int .i64 x6_1] rfl q45_ ?_;(with_reducible refine (spec_l1Dec.calls k1 x6_1 t324 _ A14.out).mono ?_);rintro e w18 ⟨rfl,hb⟩;refine ⟨_,rfl,?_⟩;replace HB:=Aside0.mk (below_step q46_ hb);(try clear hb)))
     go_meet
     case rel => exact ⟨_,(((((x4_1 ++ (⟨#[115,101,99,116,105,111,110,32,98,97,110,107]⟩:ByteArray)) ++ t323) ++ (⟨#[44,114,111,109,120,44,50,53,54,44]⟩:ByteArray)) ++ t324) ++ (⟨#[10]⟩:ByteArray)),q65_,H',⟨q83_⟩,⟨q46_⟩⟩
    clear HC7
    try clear c1
    try clear p2 p2
    try clear c4
    try clear c5
    try clear c6
    try clear c6b0
    try clear p6
    try clear c7
    try clear c8
    try clear c8b0
    try clear c8b1
    try clear c9
    try clear c9b0
    try clear c9b1
    try clear c9b2
    try clear c10
    try clear c10b0
    try clear c10b1
    try clear c10b2
    try clear c12
    try clear c12b0
    try clear c12b1
    try clear c12b2
    try clear c13
    try clear c13b0
    try clear c13b1
    try clear c13b2
    try clear c15
    try clear c15b0
    try clear c15b1
    try clear c15b2
    try clear c16
    try clear c16b0
    try clear c16b1
    try clear c16b2
    obtain ⟨kq,x4_6,rfl,HA,HJ6,HB⟩:=hcut
    cases kq with
    | zero => exact absurd HA.out (by simp [spec_SourceOf.j1])
    | succ kj6 =>
     have H:=HA.out
     clear HA
     simp only [spec_SourceOf.j1] at H
     replace H:=Option.bind_eq_some_iff.mp H
     obtain ⟨⟨t325,t326⟩,A190,H⟩:=H
     replace H:(spec_SourceOf.l1 kj6 a0 x4_6 (wrap64 ((wrap64 (x5_1 + (t325.length:Int))) + 1)) x6_1 t325 0) = some (r1,r2):=H
     have A19:=Aside0.mk A190
     clear A190
     have H':=Aside0.mk H
     clear H
     go_wp2_with (first | ((with_reducible refine gate_callee (f:=36) rfl ?_);refine goesL_ (some 37) rfl rfl Tryz.func36 (by kernel_rfl) rfl #[.string a0,.int .i64 x6_1] rfl q45_ ?_;(with_reducible refine (spec_Listed.calls kj6 a0 x6_1 t325 t326 _ A19.out).mono ?_);rintro e w20 ⟨v327,rfl,ho0,hb⟩;refine ⟨_,rfl,?_⟩;have n0_:=Aside0.mk (Kd.R_lower ho0 (below_size q46_));have n1_:=Aside0.mk (below_step q46_ hb);clear HB;have HO328:=n0_;have HB:=n1_;clear n0_ n1_;(try clear hb);(try clear ho0);obtain ⟨Ao21,co21,eo21⟩:=Kd.R_slice HO328.out;subst eo21))
     go_loopg [4,9] kj6 (fun kq v4 v9 w' => ∃ (x4_3:ByteArray) (x9_3:Int),v4 = .string x4_3 ∧ v9 = .int .i64 x9_3 ∧ Aside0 (spec_SourceOf.l1 kq a0 x4_3 (wrap64 ((wrap64 (x5_1 + (t325.length:Int))) + 1)) x6_1 t325 x9_3 = some (r1,r2)) ∧ Aside0 (kq ≤ kj6) ∧ Aside0 (Kd.R Kd.string 9 w' w.heap.size (fun _ => True) (.slice Ao21 t325.length co21) t325) ∧ Aside0 (Below w.heap.size w w'))
     case atStart => exact ⟨(x4_6),(0),q65_,q65_,H',⟨Nat.le_refl _⟩,⟨by (with_reducible repeat (first | apply Kd.R_alloc | apply Kd.R_drewN | apply Kd.R_drew));exact HO328.out⟩,⟨q46_⟩⟩
     clear H'
     try clear c1
     try clear p2 p2
     try clear c3
     try clear c4
     try clear c5
     try clear c6
     try clear c6b0
     try clear p6 p6
     try clear c7
     try clear c8
     try clear c8b0
     try clear c8b1
     try clear c9
     try clear c9b0
     try clear c9b1
     try clear c9b2
     try clear c10
     try clear c10b0
     try clear c10b1
     try clear c10b2
     try clear c12
     try clear c12b0
     try clear c12b1
     try clear c12b2
     try clear c13
     try clear c13b0
     try clear c13b1
     try clear c13b2
     try clear c15
     try clear c15b0
     try clear c15b1
     try clear c15b2
     try clear c16
     try clear c16b0
     try clear c16b1
     try clear c16b2
     obtain ⟨x4_3,x9_3,rfl,rfl,HA,HK3,HO_7,HB⟩:=hrel
     cases gk with
     | zero => exact absurd HA.out (by simp [spec_SourceOf.l1])
     | succ k3 =>
      have H:=HA.out
      clear HA
      simp only [spec_SourceOf.l1] at H
      by_cases c22:x9_3 < (t325.length:Int)
      ·rw [if_pos c22] at H
       have c22b0:decide (x9_3 < (t325.length:Int)) = true:=decide_eq_true c22
       clear c22
       by_cases c23:0 ≤ x9_3
       rotate_left
       ·rw [if_neg c23] at H
        exact absurd H (by simp)
       rw [if_pos c23] at H
       have c23b0:decide (0 ≤ x9_3) = true:=decide_eq_true c23
       clear c23
       by_cases c24:x4_3.size + (rdOf ByteArray.empty t325 x9_3).size ≤ 9223372036854775807
       rotate_left
       ·rw [if_neg c24] at H
        exact absurd H (by simp)
       rw [if_pos c24] at H
       have c24b0:=eq_true c24
       have c24b1:decide (x4_3.size + (rdOf ByteArray.empty t325 x9_3).size ≤ 9223372036854775807) = true:=decide_eq_true c24
       try have c24b2:(9223372036854775807 < x4_3.size + (rdOf ByteArray.empty t325 x9_3).size) = False:=eq_false (Nat.not_lt.2 c24)
       by_cases c25:(x4_3 ++ (rdOf ByteArray.empty t325 x9_3)).size + 1 ≤ 9223372036854775807
       rotate_left
       ·rw [if_neg c25] at H
        exact absurd H (by simp)
       rw [if_pos c25] at H
       have c25b0:=eq_true c25
       (try (have c25b0e:=c25b0;simp only [ByteArray.size_append,ByteArray.size_extract,Nat.min_self,Nat.sub_zero] at c25b0e))
       have c25b1:decide ((x4_3 ++ (rdOf ByteArray.empty t325 x9_3)).size + 1 ≤ 9223372036854775807) = true:=decide_eq_true c25
       (try (have c25b1e:=c25b1;simp only [ByteArray.size_append,ByteArray.size_extract,Nat.min_self,Nat.sub_zero] at c25b1e))
       try have c25b2:(9223372036854775807 < (x4_3 ++ (rdOf ByteArray.empty t325 x9_3)).size + 1) = False:=eq_false (Nat.not_lt.2 c25)
       (try (have c25b2e:=c25b2;simp only [ByteArray.size_append,ByteArray.size_extract,Nat.min_self,Nat.sub_zero] at c25b2e))
       have H':=Aside0.mk H
       clear H
       have p329:0 ≤ (x9_3:Int):=of_decide_eq_true q84_
       have q329:x9_3 < (t325.length:Int):=of_decide_eq_true q84_
       obtain ⟨ad329,e329,hx329_0⟩:=Kd.at_string (Kd.R_reads' HO_7.out).2.2 x9_3 p329 q329
       cases e329
       replace p329:=eq_true p329
       replace q329:=eq_true q329
       go_wp2
       go_roundg k3
       case measure => have:=HK1.out;have:=HJ6.out;have:=HK3.out;omega
       case rel => exact ⟨((x4_3 ++ (rdOf ByteArray.empty t325 x9_3)) ++ (⟨#[10]⟩:ByteArray)),(wrap64 (x9_3 + 1)),q65_,q65_,H',⟨by have:=HK1.out;have:=HJ6.out;have:=HK3.out;omega⟩,⟨q81_⟩,⟨q46_⟩⟩
      rw [if_neg c22] at H
      have c22b0:decide (x9_3 < (t325.length:Int)) = false:=decide_eq_false c22
      clear c22
      have H':=Aside0.mk H
      clear H
      go_wp2
      go_roundg k3
      case measure => have:=HK1.out;have:=HJ6.out;have:=HK3.out;omega
      case rel => exact ⟨(x4_3),((wrap64 ((wrap64 (x5_1 + (t325.length:Int))) + 1))),(wrap64 (x6_1 + 1)),q65_,q65_,q65_,H',⟨by have:=HK1.out;have:=HJ6.out;have:=HK3.out;omega⟩,⟨q46_⟩⟩
   rw [if_neg c6] at H
   have c6b0:decide (x6_1 < t322) = false:=decide_eq_false c6
   clear c6
   by_cases c26:x5_1 > 1500
   ·rw [if_pos c26] at H
    have c26b0:decide (1500 < x5_1) = true:=decide_eq_true c26
    clear c26
    simp only [Option.some.injEq,Prod.mk.injEq] at H
    obtain ⟨rfl,rfl⟩:=H
    go_wp2_with (first | ((with_reducible refine gate_callee (f:=76) rfl ?_);refine goesL_ (some 16) rfl rfl Tryz.func76 (by kernel_rfl) rfl #[.string a0] rfl q45_ ?_;(with_reducible refine (spec_l5Banks.calls a0 t322 _ A5.out).mono ?_);rintro e w' ⟨rfl,⟨nd,rfl⟩⟩;refine ⟨_,rfl,?_⟩))
    go_ret2
    exact ⟨q49_,q46_⟩
   rw [if_neg c26] at H
   have c26b0:decide (1500 < x5_1) = false:=decide_eq_false c26
   clear c26
   by_cases c27:(x4_1.size:Int) > 40000
   ·rw [if_pos c27] at H
    have c27b0:decide (40000 < (x4_1.size:Int)) = true:=decide_eq_true c27
    have c27b1:decide (40000 < x4_1.size) = true:=decide_eq_true (by omega)
    clear c27
    simp only [Option.some.injEq,Prod.mk.injEq] at H
    obtain ⟨rfl,rfl⟩:=H
    go_wp2_with (first | ((with_reducible refine gate_callee (f:=76) rfl ?_);refine goesL_ (some 16) rfl rfl Tryz.func76 (by kernel_rfl) rfl #[.string a0] rfl q45_ ?_;(with_reducible refine (spec_l5Banks.calls a0 t322 _ A5.out).mono ?_);rintro e w' ⟨rfl,⟨nd,rfl⟩⟩;refine ⟨_,rfl,?_⟩))
    go_ret2
    exact ⟨q49_,q46_⟩
   rw [if_neg c27] at H
   have c27b0:decide (40000 < (x4_1.size:Int)) = false:=decide_eq_false c27
   have c27b1:decide (40000 < x4_1.size) = false:=decide_eq_false (by omega)
   clear c27
   simp only [Option.some.injEq,Prod.mk.injEq] at H
   obtain ⟨rfl,rfl⟩:=H
   go_wp2_with (first | ((with_reducible refine gate_callee (f:=76) rfl ?_);refine goesL_ (some 16) rfl rfl Tryz.func76 (by kernel_rfl) rfl #[.string a0] rfl q45_ ?_;(with_reducible refine (spec_l5Banks.calls a0 t322 _ A5.out).mono ?_);rintro e w' ⟨rfl,⟨nd,rfl⟩⟩;refine ⟨_,rfl,?_⟩))
   go_ret2
   exact ⟨q49_,q46_⟩
 replace c4:=Bool.eq_false_iff.mpr c4
 subst c4
 replace H:(some ((⟨#[]⟩:ByteArray),false)) = some (r1,r2):=by rw [if_neg (show ¬ (false = true) by decide)] at H;exact H
 simp only [Option.some.injEq,Prod.mk.injEq] at H
 obtain ⟨rfl,rfl⟩:=H
 go_enter Tryz.func41,Tryz.ntmps41
 go_wp2_with (first | ((with_reducible refine gate_callee (f:=76) rfl ?_);refine goesL_ (some 11) rfl rfl Tryz.func76 (by kernel_rfl) rfl #[.string a0] rfl q45_ ?_;(with_reducible refine (spec_l5Banks.calls a0 t320 _ A2.out).mono ?_);rintro e w' ⟨rfl,⟨nd,rfl⟩⟩;refine ⟨_,rfl,?_⟩) | ((with_reducible refine gate_callee (f:=51) rfl ?_);refine goesL_ (some 12) rfl rfl Tryz.func51 (by kernel_rfl) rfl #[.int .i64 t320,.int .i64 2,.int .i64 12] rfl q45_ ?_;(with_reducible refine (spec_l1In.calls t320 2 12 false _ A3.out).mono ?_);rintro e w' ⟨rfl,⟨nd,rfl⟩⟩;refine ⟨_,rfl,?_⟩))
 go_ret2
 exact ⟨q49_,q46_⟩
def impl_within.f (a0:Int) (a1:Int) (a2:Int):Option (Bool):=if a0 ≥ a1 then (some (decide (a0 ≤ a2))) else (some false)
theorem impl_within.calls (a0:Int) (a1:Int) (a2:Int) (r:Bool) (w:World) (h:impl_within.f a0 a1 a2 = some r) :
  Calls Tryz.prog 61 #[.int .i64 a0,.int .i64 a1,.int .i64 a2] w fun e w' => e = .returned (.bool r) ∧ Drawn0 w w':=by
 have H:(if a0 ≥ a1 then (some (decide (a0 ≤ a2))) else (some false)) = some r:=h
 clear h
 by_cases c4:a0 ≥ a1
 ·rw [if_pos c4] at H
  have c4b0:decide (a1 ≤ a0) = true:=decide_eq_true c4
  clear c4
  obtain rfl:=Option.some.inj H
  go_enter Tryz.func61,Tryz.ntmps61
  go_wp2
  go_ret
  exact ⟨q65_,q82_⟩
 rw [if_neg c4] at H
 have c4b0:decide (a1 ≤ a0) = false:=decide_eq_false c4
 clear c4
 obtain rfl:=Option.some.inj H
 go_enter Tryz.func61,Tryz.ntmps61
 go_wp2
 go_ret
 exact ⟨q65_,q82_⟩
def impl_banksOf.f (a0:ByteArray) (a1:Int):Option (Int):=if ((a0.size:Int) % 256) = 0 then ((impl_within.f (wrap64 ((a0.size:Int) / 256)) a1 16).bind fun t330 => (if t330 = true then (some (wrap64 ((a0.size:Int) / 256))) else (some 0))) else (some 0)
theorem impl_banksOf.calls (a0:ByteArray) (a1:Int) (r:Int) (w:World) (h:impl_banksOf.f a0 a1 = some r) :
  Calls Tryz.prog 78 #[.string a0,.int .i64 a1] w fun e w' => e = .returned (.int .i64 r) ∧ Drawn0 w w':=by
 have H:(if ((a0.size:Int) % 256) = 0 then ((impl_within.f (wrap64 ((a0.size:Int) / 256)) a1 16).bind fun t330 => (if t330 = true then (some (wrap64 ((a0.size:Int) / 256))) else (some 0))) else (some 0)) = some r:=h
 clear h
 by_cases c3:((a0.size:Int) % 256) = 0
 ·rw [if_pos c3] at H
  have c3b0:(((a0.size:Int) % 256) == 0) = true:=beq_iff_eq.mpr c3
  have c3b1:(((a0.size:Int) % 256) != 0) = false:=bne_eq_false_iff_eq.mpr c3
  clear c3
  replace H:=Option.bind_eq_some_iff.mp H
  obtain ⟨t330,A40,H⟩:=H
  have A4:=Aside0.mk A40
  clear A40
  by_cases c5:t330 = true
  ·subst c5
   replace H:(some (wrap64 ((a0.size:Int) / 256))) = some r:=by rw [if_pos rfl] at H;exact H
   obtain rfl:=Option.some.inj H
   go_enter Tryz.func78,Tryz.ntmps78
   go_wp2_with (first | (go_at_call 61;(with_reducible refine (impl_within.calls (wrap64 ((a0.size:Int) / 256)) a1 16 true _ A4.out).mono ?_);rintro e w' ⟨rfl,⟨nd,rfl⟩⟩))
   go_ret
   exact ⟨q65_,q82_⟩
  replace c5:=Bool.eq_false_iff.mpr c5
  subst c5
  replace H:(some 0) = some r:=by rw [if_neg (show ¬ (false = true) by decide)] at H;exact H
  obtain rfl:=Option.some.inj H
  go_enter Tryz.func78,Tryz.ntmps78
  go_wp2_with (first | (go_at_call 61;(with_reducible refine (impl_within.calls (wrap64 ((a0.size:Int) / 256)) a1 16 false _ A4.out).mono ?_);rintro e w' ⟨rfl,⟨nd,rfl⟩⟩))
  go_ret
  exact ⟨q65_,q82_⟩
 rw [if_neg c3] at H
 have c3b0:(((a0.size:Int) % 256) == 0) = false:=beq_eq_false_iff_ne.mpr c3
 have c3b1:(((a0.size:Int) % 256) != 0) = true:=bne_iff_ne.mpr c3
 obtain rfl:=Option.some.inj H
 go_enter Tryz.func78,Tryz.ntmps78
 go_wp2
 go_ret
 exact ⟨q65_,q82_⟩
def impl_isByte.f (a0:Int):Option (Bool):=(impl_within.f a0 0 255).bind fun t331 => (some t331)
theorem impl_isByte.calls (a0:Int) (r:Bool) (w:World) (h:impl_isByte.f a0 = some r) :
  Calls Tryz.prog 58 #[.int .i64 a0] w fun e w' => e = .returned (.bool r) ∧ Drawn0 w w':=by
 have H:((impl_within.f a0 0 255).bind fun t331 => (some t331)) = some r:=h
 clear h
 replace H:=Option.bind_eq_some_iff.mp H
 obtain ⟨t331,A20,H⟩:=H
 have A2:=Aside0.mk A20
 clear A20
 obtain rfl:=Option.some.inj H
 go_enter Tryz.func58,Tryz.ntmps58
 go_wp2_with (first | ((with_reducible refine gate_callee (f:=61) rfl ?_);refine goesL_ (some 4) rfl rfl Tryz.func61 (by kernel_rfl) rfl #[.int .i64 a0,.int .i64 0,.int .i64 255] rfl q45_ ?_;(with_reducible refine (impl_within.calls a0 0 255 t331 _ A2.out).mono ?_);rintro e w' ⟨rfl,⟨nd,rfl⟩⟩;refine ⟨_,rfl,?_⟩))
 go_ret
 exact ⟨q65_,q82_⟩
def impl_decimal.f (a0:Int):Option (ByteArray):=(strconv_FormatInt.f a0 10).bind fun t332 => (some t332)
theorem impl_decimal.calls (a0:Int) (r:ByteArray) (w:World) (h:impl_decimal.f a0 = some r) (hG:Go.Proofs.YtodlnnoekccmmaaGreatDoor.LibW.GL w:=by first | exact hG | exact hG.below q4_ | exact hG.drewN _) :
  Calls Tryz.prog 89 #[.int .i64 a0] w fun e w' => e = .returned (.string r) ∧ Below w.heap.size w w':=by
 have HB:=Aside0.mk (Below.refl w.heap.size w)
 have H:((strconv_FormatInt.f a0 10).bind fun t332 => (some t332)) = some r:=h
 clear h
 replace H:=Option.bind_eq_some_iff.mp H
 obtain ⟨t332,A20,H⟩:=H
 have A2:=Aside0.mk A20
 clear A20
 obtain rfl:=Option.some.inj H
 go_enter Tryz.func89,Tryz.ntmps89
 go_wp2_with (first | ((with_reducible refine gate_callee (f:=127) rfl ?_);refine goesL_ (some 4) rfl rfl Tryz.func127 (by kernel_rfl) rfl #[.int .i64 a0,.int .i64 10] rfl q45_ ?_;(with_reducible refine (strconv_FormatInt.calls a0 10 t332 _ A2.out).mono ?_);rintro e w3 ⟨rfl,hb⟩;refine ⟨_,rfl,?_⟩;replace HB:=Aside0.mk (below_step q46_ hb);(try clear hb)))
 go_ret
 exact ⟨q49_,q46_⟩
def impl_names.f (a0:ByteArray):Option (List ByteArray):=(strings_Split.f a0 (⟨#[32]⟩:ByteArray)).bind fun t333 => (some t333)
theorem impl_names.calls (a0:ByteArray) (r:List ByteArray) (w:World) (h:impl_names.f a0 = some r) (hG:Go.Proofs.YtodlnnoekccmmaaGreatDoor.LibW.GL w:=by first | exact hG | exact hG.below q4_ | exact hG.drewN _) :
  Calls Tryz.prog 97 #[.string a0] w fun e w' => ∃ v0_:Value,e = .returned (v0_) ∧ Kd.R Kd.string 9 w' w.heap.size (fun _ => True) v0_ r ∧ Below w.heap.size w w':=by
 have HB:=Aside0.mk (Below.refl w.heap.size w)
 have H:((strings_Split.f a0 (⟨#[32]⟩:ByteArray)).bind fun t333 => (some t333)) = some r:=h
 clear h
 replace H:=Option.bind_eq_some_iff.mp H
 obtain ⟨t333,A20,H⟩:=H
 have A2:=Aside0.mk A20
 clear A20
 obtain rfl:=Option.some.inj H
 go_enter Tryz.func97,Tryz.ntmps97
 go_wp2_with (first | ((with_reducible refine gate_callee (f:=131) rfl ?_);refine goesL_ (some 4) rfl rfl Tryz.func131 (by kernel_rfl) rfl #[.string a0,.string (⟨#[32]⟩:ByteArray)] rfl q45_ ?_;(with_reducible refine (strings_Split.calls a0 (⟨#[32]⟩:ByteArray) t333 _ A2.out).mono ?_);rintro e w3 ⟨v334,rfl,ho0,hb⟩;refine ⟨_,rfl,?_⟩;have n0_:=Aside0.mk (Kd.R_lower ho0 (below_size q46_));have n1_:=Aside0.mk (below_step q46_ hb);clear HB;have HO335:=n0_;have HB:=n1_;clear n0_ n1_;(try clear hb);(try clear ho0)))
 go_ret
 exact ⟨_,q49_,by (with_reducible repeat (first | apply Kd.R_alloc | apply Kd.R_drewN | apply Kd.R_drew));exact HO335.out,q46_⟩
def impl_regs.f :Option (List ByteArray):=(impl_names.f (⟨#[98,32,99,32,100,32,101,32,104,32,108,32,91,104,108,93,32,97]⟩:ByteArray)).bind fun t336 => (some t336)
theorem impl_regs.calls  (r:List ByteArray) (w:World) (h:impl_regs.f  = some r) (hG:Go.Proofs.YtodlnnoekccmmaaGreatDoor.LibW.GL w:=by first | exact hG | exact hG.below q4_ | exact hG.drewN _) :
  Calls Tryz.prog 96 #[] w fun e w' => ∃ v0_:Value,e = .returned (v0_) ∧ Kd.R Kd.string 9 w' w.heap.size (fun _ => True) v0_ r ∧ Below w.heap.size w w':=by
 have HB:=Aside0.mk (Below.refl w.heap.size w)
 have H:((impl_names.f (⟨#[98,32,99,32,100,32,101,32,104,32,108,32,91,104,108,93,32,97]⟩:ByteArray)).bind fun t336 => (some t336)) = some r:=h
 clear h
 replace H:=Option.bind_eq_some_iff.mp H
 obtain ⟨t336,A10,H⟩:=H
 have A1:=Aside0.mk A10
 clear A10
 obtain rfl:=Option.some.inj H
 go_enter Tryz.func96,Tryz.ntmps96
 go_wp2_with (first | ((with_reducible refine gate_callee (f:=97) rfl ?_);refine goesL_ (some 1) rfl rfl Tryz.func97 (by kernel_rfl) rfl #[.string (⟨#[98,32,99,32,100,32,101,32,104,32,108,32,91,104,108,93,32,97]⟩:ByteArray)] rfl q45_ ?_;(with_reducible refine (impl_names.calls (⟨#[98,32,99,32,100,32,101,32,104,32,108,32,91,104,108,93,32,97]⟩:ByteArray) t336 _ A1.out).mono ?_);rintro e w2 ⟨v337,rfl,ho0,hb⟩;refine ⟨_,rfl,?_⟩;have n0_:=Aside0.mk (Kd.R_lower ho0 (below_size q46_));have n1_:=Aside0.mk (below_step q46_ hb);clear HB;have HO338:=n0_;have HB:=n1_;clear n0_ n1_;(try clear hb);(try clear ho0)))
 go_ret
 exact ⟨_,q49_,by (with_reducible repeat (first | apply Kd.R_alloc | apply Kd.R_drewN | apply Kd.R_drew));exact HO338.out,q46_⟩
def impl_turns.f :Option (List ByteArray):=(impl_names.f (⟨#[114,108,99,32,114,114,99,32,114,108,32,114,114,32,115,108,97,32,115,114,97,32,115,119,97,112,32,115,114,108]⟩:ByteArray)).bind fun t339 => (some t339)
theorem impl_turns.calls  (r:List ByteArray) (w:World) (h:impl_turns.f  = some r) (hG:Go.Proofs.YtodlnnoekccmmaaGreatDoor.LibW.GL w:=by first | exact hG | exact hG.below q4_ | exact hG.drewN _) :
  Calls Tryz.prog 128 #[] w fun e w' => ∃ v0_:Value,e = .returned (v0_) ∧ Kd.R Kd.string 9 w' w.heap.size (fun _ => True) v0_ r ∧ Below w.heap.size w w':=by
 have HB:=Aside0.mk (Below.refl w.heap.size w)
 have H:((impl_names.f (⟨#[114,108,99,32,114,114,99,32,114,108,32,114,114,32,115,108,97,32,115,114,97,32,115,119,97,112,32,115,114,108]⟩:ByteArray)).bind fun t339 => (some t339)) = some r:=h
 clear h
 replace H:=Option.bind_eq_some_iff.mp H
 obtain ⟨t339,A10,H⟩:=H
 have A1:=Aside0.mk A10
 clear A10
 obtain rfl:=Option.some.inj H
 go_enter Tryz.func128,Tryz.ntmps128
 go_wp2_with (first | ((with_reducible refine gate_callee (f:=97) rfl ?_);refine goesL_ (some 1) rfl rfl Tryz.func97 (by kernel_rfl) rfl #[.string (⟨#[114,108,99,32,114,114,99,32,114,108,32,114,114,32,115,108,97,32,115,114,97,32,115,119,97,112,32,115,114,108]⟩:ByteArray)] rfl q45_ ?_;(with_reducible refine (impl_names.calls (⟨#[114,108,99,32,114,114,99,32,114,108,32,114,114,32,115,108,97,32,115,114,97,32,115,119,97,112,32,115,114,108]⟩:ByteArray) t339 _ A1.out).mono ?_);rintro e w2 ⟨v340,rfl,ho0,hb⟩;refine ⟨_,rfl,?_⟩;have n0_:=Aside0.mk (Kd.R_lower ho0 (below_size q46_));have n1_:=Aside0.mk (below_step q46_ hb);clear HB;have HO341:=n0_;have HB:=n1_;clear n0_ n1_;(try clear hb);(try clear ho0)))
 go_ret
 exact ⟨_,q49_,by (with_reducible repeat (first | apply Kd.R_alloc | apply Kd.R_drewN | apply Kd.R_drew));exact HO341.out,q46_⟩
end Go.Proofs.YtodlnnoekccmmaaGreatDoor.QFnExactSourceOf
