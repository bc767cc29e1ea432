/- The machine's side of a law,written by a program of this session for this claim. -/
import Derived.Test.YtoiiaklmjpiejaaDoorSQq
import Derived.Test.YtoiiaklmjpiejaaDoorSQFnSymTextsx0
import Derived.Test.YtoiiaklmjpiejaaDoorSQFnSymTextsx4
namespace Go.Proofs.YtoiiaklmjpiejaaDoor.QFnSymTexts
open Go.Proofs.YtoiiaklmjpiejaaDoor.Qq
open Go.RowKit Go.Proofs.YtoiiaklmjpiejaaDoor.LibX Go.Proofs.YtoiiaklmjpiejaaDoor.LibE Go.Proofs.YtoiiaklmjpiejaaDoor.LibCB Go.Proofs.YtoiiaklmjpiejaaDoor.LibG Go.Proofs.YtoiiaklmjpiejaaDoor.LibSY Go.Proofs.YtoiiaklmjpiejaaDoorW.PrintWords Go.Proofs.YtoiiaklmjpiejaaDoorW.PrintLast Go.Proofs.YtoiiaklmjpiejaaDoorW.PrintMore
attribute [local go_sem] max2_int min2_int max_two min_two max_three min_three max_four min_four   -- for this text's walks alone
set_option maxHeartbeats 8000000
set_option maxRecDepth 100000
set_option linter.unusedVariables false
set_option linter.unusedSimpArgs false
def impl_valueOf.l0:Nat → ByteArray → ByteArray → Int → Int → Int → Option (Int × Bool)
 | 0,_,_,_,_,_ => none
 | k + 1,x0,x1,x6,x10,x11 => if x11 < x10 then (if 0 ≤ x11 then (if x11 < (x0.size:Int) then ((strings_IndexByte.f x1 (bt x0 x11)).bind fun t147 => (if t147 < 0 then (some (0,false)) else (if x6 > 65535 then (some (0,false)) else (impl_valueOf.l0 k x0 x1 (wrap64 ((wrap64 (x6 * (x1.size:Int))) + t147)) x10 (wrap64 (x11 + 1)))))) else (none)) else (none)) else (if x0.toList = ([]:List UInt8) then (some (x6,false)) else (some (x6,decide (x6 ≤ 65535))))
def impl_valueOf.f (k:Nat) (a0:ByteArray) (a1:ByteArray):Option (Int × Bool):=impl_valueOf.l0 k a0 a1 0 (a0.size:Int) 0
theorem impl_valueOf.calls (k:Nat) (a0:ByteArray) (a1:ByteArray) (r1:Int) (r2:Bool) (w:World) (h:impl_valueOf.f k a0 a1 = some (r1,r2)) :
  Calls Tryd.prog 73 #[.string a0,.string a1] w fun e w' => e = .returned (.tuple #[.int .i64 r1,.bool r2]) ∧ Drawn0 w w':=by
 have H:=h;unfold impl_valueOf.f at H
 clear h
 have H':=Aside0.mk H
 clear H
 go_enter Tryd.func73,Tryd.ntmps73
 go_wp2
 go_loopg [6,11] k (fun kq v6 v11 w' => ∃ (x6_1:Int) (x11_1:Int),v6 = .int .i64 x6_1 ∧ v11 = .int .i64 x11_1 ∧ Aside0 (impl_valueOf.l0 kq a0 a1 x6_1 (a0.size:Int) x11_1 = some (r1,r2)) ∧ Aside0 (kq ≤ k) ∧ Drawn0 w w')
 case atStart => exact ⟨(0),(0),q26_,q26_,H',⟨Nat.le_refl _⟩,q34_⟩
 clear H'
 try clear p2
 obtain ⟨x6_1,x11_1,rfl,rfl,HA,HK1,⟨m1,rfl⟩⟩:=hrel
 cases gk with
 | zero => exact absurd HA.out (by simp [impl_valueOf.l0])
 | succ k1 =>
  have H:=HA.out
  clear HA
  simp only [impl_valueOf.l0] at H
  by_cases c3:x11_1 < (a0.size:Int)
  ·rw [if_pos c3] at H
   have c3b0:=decide_eq_true c3
   clear c3
   by_cases c4:0 ≤ x11_1
   rotate_left
   ·rw [if_neg c4] at H
    exact absurd H (by simp)
   rw [if_pos c4] at H
   have c4b0:=decide_eq_true c4
   clear c4
   by_cases c5:x11_1 < (a0.size:Int)
   rotate_left
   ·rw [if_neg c5] at H
    exact absurd H (by simp)
   rw [if_pos c5] at H
   have c5b0:=decide_eq_true c5
   clear c5
   replace H:=Option.bind_eq_some_iff.mp H
   obtain ⟨t147,A70,H⟩:=H
   have A7:=Aside0.mk A70
   clear A70
   by_cases c8:t147 < 0
   ·rw [if_pos c8] at H
    have c8b0:=decide_eq_true c8
    clear c8
    simp only [Option.some.injEq,Prod.mk.injEq] at H
    obtain ⟨rfl,rfl⟩:=H
    have p6:0 ≤ (x11_1:Int):=of_decide_eq_true q36_
    have q6:x11_1 < (a0.size:Int):=of_decide_eq_true q36_
    have hx6:=bt_at a0 x11_1
    replace p6:=eq_true p6
    replace q6:=eq_true q6
    go_wp2_with (first | ((with_reducible refine gate_callee (f:=97) rfl ?_);refine goesL_ (some 18) rfl rfl Tryd.func97 (by kernel_rfl) rfl #[.string a1,.int .u8 (bt a0 x11_1)] rfl q19_ ?_;(with_reducible refine (strings_IndexByte.calls a1 (bt a0 x11_1) t147 _ A7.out).mono ?_);rintro e w' ⟨rfl,⟨nd,rfl⟩⟩;refine ⟨_,rfl,?_⟩))
    go_ret2
    exact ⟨q26_,q34_⟩
   rw [if_neg c8] at H
   have c8b0:=decide_eq_false c8
   clear c8
   by_cases c9:x6_1 > 65535
   ·rw [if_pos c9] at H
    have c9b0:decide (65535 < x6_1) = true:=decide_eq_true c9
    clear c9
    simp only [Option.some.injEq,Prod.mk.injEq] at H
    obtain ⟨rfl,rfl⟩:=H
    have p6:0 ≤ (x11_1:Int):=of_decide_eq_true q36_
    have q6:x11_1 < (a0.size:Int):=of_decide_eq_true q36_
    have hx6:=bt_at a0 x11_1
    replace p6:=eq_true p6
    replace q6:=eq_true q6
    go_wp2_with (first | ((with_reducible refine gate_callee (f:=97) rfl ?_);refine goesL_ (some 18) rfl rfl Tryd.func97 (by kernel_rfl) rfl #[.string a1,.int .u8 (bt a0 x11_1)] rfl q19_ ?_;(with_reducible refine (strings_IndexByte.calls a1 (bt a0 x11_1) t147 _ A7.out).mono ?_);rintro e w' ⟨rfl,⟨nd,rfl⟩⟩;refine ⟨_,rfl,?_⟩))
    go_ret2
    exact ⟨q26_,q34_⟩
   rw [if_neg c9] at H
   have c9b0:decide (65535 < x6_1) = false:=decide_eq_false c9
   clear c9
   have H':=Aside0.mk H
   clear H
   have p6:0 ≤ (x11_1:Int):=of_decide_eq_true q36_
   have q6:x11_1 < (a0.size:Int):=of_decide_eq_true q36_
   have hx6:=bt_at a0 x11_1
   replace p6:=eq_true p6
   replace q6:=eq_true q6
   go_wp2_with (first | ((with_reducible refine gate_callee (f:=97) rfl ?_);refine goesL_ (some 18) rfl rfl Tryd.func97 (by kernel_rfl) rfl #[.string a1,.int .u8 (bt a0 x11_1)] rfl q19_ ?_;(with_reducible refine (strings_IndexByte.calls a1 (bt a0 x11_1) t147 _ A7.out).mono ?_);rintro e w' ⟨rfl,⟨nd,rfl⟩⟩;refine ⟨_,rfl,?_⟩))
   go_roundg k1
   case measure => have:=HK1.out;omega
   case rel => exact ⟨(wrap64 ((wrap64 (x6_1 * (a1.size:Int))) + t147)),(wrap64 (x11_1 + 1)),q26_,q26_,H',⟨by have:=HK1.out;omega⟩,q34_⟩
  rw [if_neg c3] at H
  have c3b0:=decide_eq_false c3
  clear c3
  by_cases c10:a0.toList = ([]:List UInt8)
  ·rw [if_pos c10] at H
   have c10b0:(a0.toList == ([]:List UInt8)) = true:=beq_iff_eq.mpr c10
   have c10b1:(a0.toList != ([]:List UInt8)) = false:=bne_eq_false_iff_eq.mpr c10
   have c10b9:a0.toList.isEmpty = true:=(isEmpty_beq _).trans c10b0
   clear c10
   simp only [Option.some.injEq,Prod.mk.injEq] at H
   obtain ⟨rfl,rfl⟩:=H
   go_wp2
   go_ret2
   exact ⟨q26_,q34_⟩
  rw [if_neg c10] at H
  have c10b0:(a0.toList == ([]:List UInt8)) = false:=beq_eq_false_iff_ne.mpr c10
  have c10b1:(a0.toList != ([]:List UInt8)) = true:=bne_iff_ne.mpr c10
  have c10b9:a0.toList.isEmpty = false:=(isEmpty_beq _).trans c10b0
  simp only [Option.some.injEq,Prod.mk.injEq] at H
  obtain ⟨rfl,rfl⟩:=H
  go_wp2
  go_ret2
  exact ⟨q26_,q34_⟩
def impl_ReadNum.j0:Nat → Int → Bool → Option (Int × Bool)
 | 0,_,_ => none
 | k + 1,x4,x5 => if x5 = true then (some (x4,true)) else (some (0,false))
def impl_ReadNum.f (k:Nat) (a0:ByteArray):Option (Int × Bool):=if (a0.size:Int) > 18 then (impl_ReadNum.j0 k 0 false) else ((strings_HasPrefix.f a0 (⟨#[36]⟩:ByteArray)).bind fun t148 => (if t148 = true then (if 1 ≤ (a0.size:Int) then ((impl_valueOf.f k (a0.extract 1 a0.size) (⟨#[48,49,50,51,52,53,54,55,56,57,65,66,67,68,69,70]⟩:ByteArray)).bind fun bt149 => (impl_ReadNum.j0 k bt149.1 bt149.2)) else (none)) else ((strings_HasPrefix.f a0 (⟨#[37]⟩:ByteArray)).bind fun t151 => (if t151 = true then (if 1 ≤ (a0.size:Int) then ((impl_valueOf.f k (a0.extract 1 a0.size) (⟨#[48,49]⟩:ByteArray)).bind fun bt152 => (impl_ReadNum.j0 k bt152.1 bt152.2)) else (none)) else ((impl_valueOf.f k a0 (⟨#[48,49,50,51,52,53,54,55,56,57]⟩:ByteArray)).bind fun bt154 => (impl_ReadNum.j0 k bt154.1 bt154.2))))))
theorem impl_ReadNum.calls (k:Nat) (a0:ByteArray) (r1:Int) (r2:Bool) (w:World) (h:impl_ReadNum.f k a0 = some (r1,r2)) :
  Calls Tryd.prog 49 #[.string a0] w fun e w' => e = .returned (.tuple #[.int .i64 r1,.bool r2]) ∧ Drawn0 w w':=by
 have H:=h;unfold impl_ReadNum.f at H
 clear h
 have HC2:=Aside0.mk H
 clear H
 go_enter Tryd.func49,Tryd.ntmps49
 go_upto_block 0 with (fail)
 go_cut [4,5] (fun v4 v5 wc => ∃ (kq:Nat) (x4_1:Int) (x5_1:Bool),v4 = .int .i64 x4_1 ∧ v5 = .bool x5_1 ∧ Aside0 (impl_ReadNum.j0 kq x4_1 x5_1 = some (r1,r2)) ∧ Aside0 (kq ≤ k) ∧ Drawn0 w wc)
 case first =>
  have H:=HC2.out
  clear HC2
  by_cases c3:(a0.size:Int) > 18
  ·rw [if_pos c3] at H
   have c3b0:decide (18 < (a0.size:Int)) = true:=decide_eq_true c3
   have c3b1:decide (18 < a0.size) = true:=decide_eq_true (by omega)
   clear c3
   (first | rw [c3b0] | (simp only [i64_w,i32_w];rw [c3b0]) | rw [c3b9] | skip)
   have H':=Aside0.mk H
   clear H
   go_wp2
   go_meet
   case rel => exact ⟨_,(0),(false),q26_,q26_,H',⟨q37_⟩,q34_⟩
  rw [if_neg c3] at H
  have c3b0:decide (18 < (a0.size:Int)) = false:=decide_eq_false c3
  have c3b1:decide (18 < a0.size) = false:=decide_eq_false (by omega)
  clear c3
  (first | rw [c3b0] | (simp only [i64_w,i32_w];rw [c3b0]) | rw [c3b9] | skip)
  replace H:=Option.bind_eq_some_iff.mp H
  obtain ⟨t148,A40,H⟩:=H
  have A4:=Aside0.mk A40
  clear A40
  by_cases c5:t148 = true
  ·subst c5
   rewrite [if_pos rfl] at H
   by_cases c6:1 ≤ (a0.size:Int)
   rotate_left
   ·rw [if_neg c6] at H
    exact absurd H (by simp)
   rw [if_pos c6] at H
   have c6b0:=eq_true c6
   have c6b1:=decide_eq_true c6
   clear c6
   replace H:=Option.bind_eq_some_iff.mp H
   obtain ⟨⟨t149,t150⟩,A70,H⟩:=H
   try dsimp -simprocs -eta only at H
   have A7:=Aside0.mk A70
   clear A70
   have H':=Aside0.mk H
   clear H
   go_wp2_with (first | ((with_reducible refine gate_callee (f:=72) rfl ?_);refine goesL_ (some 17) rfl rfl Tryd.func72 (by kernel_rfl) rfl #[.string a0,.string (⟨#[36]⟩:ByteArray)] rfl q19_ ?_;(with_reducible refine (strings_HasPrefix.calls a0 (⟨#[36]⟩:ByteArray) true _ A4.out).mono ?_);rintro e w' ⟨rfl,⟨nd,rfl⟩⟩;refine ⟨_,rfl,?_⟩) | ((with_reducible refine gate_callee (f:=73) rfl ?_);refine goesL_ (some 21) rfl rfl Tryd.func73 (by kernel_rfl) rfl #[.string (a0.extract 1 a0.size),.string (⟨#[48,49,50,51,52,53,54,55,56,57,65,66,67,68,69,70]⟩:ByteArray)] rfl q19_ ?_;(with_reducible refine (impl_valueOf.calls k (a0.extract 1 a0.size) (⟨#[48,49,50,51,52,53,54,55,56,57,65,66,67,68,69,70]⟩:ByteArray) t149 t150 _ A7.out).mono ?_);rintro e w' ⟨rfl,⟨nd,rfl⟩⟩;refine ⟨_,rfl,?_⟩))
   go_meet
   case rel => exact ⟨_,(t149),(t150),q26_,q26_,H',⟨q37_⟩,q34_⟩
  replace c5:=Bool.eq_false_iff.mpr c5
  subst c5
  rewrite [if_neg (show ¬ (false = true) by decide)] at H
  replace H:=Option.bind_eq_some_iff.mp H
  obtain ⟨t151,A80,H⟩:=H
  have A8:=Aside0.mk A80
  clear A80
  by_cases c9:t151 = true
  ·subst c9
   rewrite [if_pos rfl] at H
   by_cases c10:1 ≤ (a0.size:Int)
   rotate_left
   ·rw [if_neg c10] at H
    exact absurd H (by simp)
   rw [if_pos c10] at H
   have c10b0:=eq_true c10
   have c10b1:=decide_eq_true c10
   clear c10
   replace H:=Option.bind_eq_some_iff.mp H
   obtain ⟨⟨t152,t153⟩,A110,H⟩:=H
   try dsimp -simprocs -eta only at H
   have A11:=Aside0.mk A110
   clear A110
   have H':=Aside0.mk H
   clear H
   go_wp2_with (first | ((with_reducible refine gate_callee (f:=72) rfl ?_);refine goesL_ (some 17) rfl rfl Tryd.func72 (by kernel_rfl) rfl #[.string a0,.string (⟨#[36]⟩:ByteArray)] rfl q19_ ?_;(with_reducible refine (strings_HasPrefix.calls a0 (⟨#[36]⟩:ByteArray) false _ A4.out).mono ?_);rintro e w' ⟨rfl,⟨nd,rfl⟩⟩;refine ⟨_,rfl,?_⟩) | ((with_reducible refine gate_callee (f:=72) rfl ?_);refine goesL_ (some 26) rfl rfl Tryd.func72 (by kernel_rfl) rfl #[.string a0,.string (⟨#[37]⟩:ByteArray)] rfl q19_ ?_;(with_reducible refine (strings_HasPrefix.calls a0 (⟨#[37]⟩:ByteArray) true _ A8.out).mono ?_);rintro e w' ⟨rfl,⟨nd,rfl⟩⟩;refine ⟨_,rfl,?_⟩) | ((with_reducible refine gate_callee (f:=73) rfl ?_);refine goesL_ (some 30) rfl rfl Tryd.func73 (by kernel_rfl) rfl #[.string (a0.extract 1 a0.size),.string (⟨#[48,49]⟩:ByteArray)] rfl q19_ ?_;(with_reducible refine (impl_valueOf.calls k (a0.extract 1 a0.size) (⟨#[48,49]⟩:ByteArray) t152 t153 _ A11.out).mono ?_);rintro e w' ⟨rfl,⟨nd,rfl⟩⟩;refine ⟨_,rfl,?_⟩))
   go_meet
   case rel => exact ⟨_,(t152),(t153),q26_,q26_,H',⟨q37_⟩,q34_⟩
  replace c9:=Bool.eq_false_iff.mpr c9
  subst c9
  rewrite [if_neg (show ¬ (false = true) by decide)] at H
  replace H:=Option.bind_eq_some_iff.mp H
  obtain ⟨⟨t154,t155⟩,A120,H⟩:=H
  try dsimp -simprocs -eta only at H
  have A12:=Aside0.mk A120
  clear A120
  have H':=Aside0.mk H
  clear H
  go_wp2_with (first | ((with_reducible refine gate_callee (f:=72) rfl ?_);refine goesL_ (some 17) rfl rfl Tryd.func72 (by kernel_rfl) rfl #[.string a0,.string (⟨#[36]⟩:ByteArray)] rfl q19_ ?_;(with_reducible refine (strings_HasPrefix.calls a0 (⟨#[36]⟩:ByteArray) false _ A4.out).mono ?_);rintro e w' ⟨rfl,⟨nd,rfl⟩⟩;refine ⟨_,rfl,?_⟩) | ((with_reducible refine gate_callee (f:=72) rfl ?_);refine goesL_ (some 26) rfl rfl Tryd.func72 (by kernel_rfl) rfl #[.string a0,.string (⟨#[37]⟩:ByteArray)] rfl q19_ ?_;(with_reducible refine (strings_HasPrefix.calls a0 (⟨#[37]⟩:ByteArray) false _ A8.out).mono ?_);rintro e w' ⟨rfl,⟨nd,rfl⟩⟩;refine ⟨_,rfl,?_⟩) | ((with_reducible refine gate_callee (f:=73) rfl ?_);refine goesL_ (some 8) rfl rfl Tryd.func73 (by kernel_rfl) rfl #[.string a0,.string (⟨#[48,49,50,51,52,53,54,55,56,57]⟩:ByteArray)] rfl q19_ ?_;(with_reducible refine (impl_valueOf.calls k a0 (⟨#[48,49,50,51,52,53,54,55,56,57]⟩:ByteArray) t154 t155 _ A12.out).mono ?_);rintro e w' ⟨rfl,⟨nd,rfl⟩⟩;refine ⟨_,rfl,?_⟩))
  go_meet
  case rel => exact ⟨_,(t154),(t155),q26_,q26_,H',⟨q37_⟩,q34_⟩
 clear HC2
 try clear c1
 try clear p2
 try clear c3
 try clear c3b0
 try clear c3b1
 try clear c4
 try clear c5
 try clear c6
 try clear c6b0
 try clear c6b1
 try clear p6
 try clear c7
 try clear c9
 try clear c10
 try clear c10b0
 try clear c10b1
 obtain ⟨kq,x4_1,x5_1,rfl,rfl,HA,HJ1,⟨mc1,rfl⟩⟩:=hcut
 cases kq with
 | zero => exact absurd HA.out (by simp [impl_ReadNum.j0])
 | succ kj1 =>
  have H:=HA.out
  clear HA
  simp only [impl_ReadNum.j0] at H
  by_cases c13:x5_1 = true
  ·subst c13
   rewrite [if_pos rfl] at H
   simp only [Option.some.injEq,Prod.mk.injEq] at H
   obtain ⟨rfl,rfl⟩:=H
   go_wp2
   go_ret2
   exact ⟨q26_,q34_⟩
  replace c13:=Bool.eq_false_iff.mpr c13
  subst c13
  rewrite [if_neg (show ¬ (false = true) by decide)] at H
  simp only [Option.some.injEq,Prod.mk.injEq] at H
  obtain ⟨rfl,rfl⟩:=H
  go_wp2
  go_ret2
  exact ⟨q26_,q34_⟩
def impl_ReadSyms.l0:Nat → ByteArray → List (S54) → List ByteArray → Int → Int → Option ((List (S54)) × Bool)
 | 0,_,_,_,_,_ => none
 | k + 1,x0,x5,x22,x23,x24 => if x24 < x23 then (if 0 ≤ x24 then (if x24 < (x22.length:Int) then (if ((rdOf ByteArray.empty x22 x24).size:Int) < 8 then (some (([]:List (S54)),false)) else (if 0 ≤ 2 then (if 2 ≤ ((rdOf ByteArray.empty x22 x24).size:Int) then (if 1 + ((rdOf ByteArray.empty x22 x24).extract 0 2).size ≤ 9223372036854775807 then ((impl_ReadNum.f k ((⟨#[36]⟩:ByteArray) ++ ((rdOf ByteArray.empty x22 x24).extract 0 2))).bind fun bt167 => (if 3 ≤ 7 then (if 7 ≤ ((rdOf ByteArray.empty x22 x24).size:Int) then (if 1 + ((rdOf ByteArray.empty x22 x24).extract 3 7).size ≤ 9223372036854775807 then ((impl_ReadNum.f k ((⟨#[36]⟩:ByteArray) ++ ((rdOf ByteArray.empty x22 x24).extract 3 7))).bind fun bt169 => (if 8 ≤ ((rdOf ByteArray.empty x22 x24).size:Int) then (if x5.length < 4398046511104 then (impl_ReadSyms.l0 k x0 (x5 ++ [(⟨(rdOf ByteArray.empty x22 x24).extract 8 (rdOf ByteArray.empty x22 x24).size,bt167.1,bt169.1⟩:S54)]) x22 x23 (wrap64 (x24 + 1))) else (none)) else (none))) else (none)) else (none)) else (none))) else (none)) else (none)) else (none))) else (none)) else (none)) else ((impl_areSyms.f k x5).bind fun t174 => (if t174 = true then ((impl_symText.f k x5).bind fun t175 => (if t175.toList = x0.toList then (some (x5,true)) else (some (([]:List (S54)),false)))) else (some (([]:List (S54)),false))))
def impl_ReadSyms.f (k:Nat) (a0:ByteArray):Option ((List (S54)) × Bool):=(strings_Split.f a0 (⟨#[10]⟩:ByteArray)).bind fun t156 => (if (t156.length:Int) > 801 then (some (([]:List (S54)),false)) else (if 0 ≤ (wrap64 ((t156.length:Int) - 1)) then (if (wrap64 ((t156.length:Int) - 1)) ≤ (t156.length:Int) then ((some (t156.take ((wrap64 ((t156.length:Int) - 1)):Int).toNat:List ByteArray)).bind fun y162 => (impl_ReadSyms.l0 k a0 (([]:List (S54))) y162 (y162.length:Int) 0)) else (none)) else (none)))
theorem impl_ReadSyms.calls (k:Nat) (a0:ByteArray) (r1:List (S54)) (r2:Bool) (w:World) (h:impl_ReadSyms.f k a0 = some (r1,r2)) (hG:Go.Proofs.YtoiiaklmjpiejaaDoor.LibW.GL w:=by first | exact hG | exact hG.below q2_ | exact hG.drewN _) :
  Calls Tryd.prog 21 #[.string a0] w fun e w' => ∃ v0_:Value,e = .returned (.tuple #[v0_,.bool r2]) ∧ Kd.R k54 54 w' w.heap.size (fun _ => True) v0_ r1 ∧ Below w.heap.size w w':=by
 have hu54:=Tryd.underlying54
 have HB:=Aside0.mk (Below.refl w.heap.size w)
 have H:=h;unfold impl_ReadSyms.f at H
 clear h
 replace H:=Option.bind_eq_some_iff.mp H
 obtain ⟨t156,A20,H⟩:=H
 have A2:=Aside0.mk A20
 clear A20
 by_cases c3:(t156.length:Int) > 801
 ·rw [if_pos c3] at H
  have c3b0:decide (801 < (t156.length:Int)) = true:=decide_eq_true c3
  have c3b1:decide (801 < t156.length) = true:=decide_eq_true (by omega)
  clear c3
  simp only [Option.some.injEq,Prod.mk.injEq] at H
  obtain ⟨rfl,rfl⟩:=H
  go_enter Tryd.func21,Tryd.ntmps21
  go_wp2_with (first | ((with_reducible refine gate_callee (f:=32) rfl ?_);refine goesL_ (some 13) rfl rfl Tryd.func32 (by kernel_rfl) rfl #[.string a0,.string (⟨#[10]⟩:ByteArray)] rfl q19_ ?_;(with_reducible refine (strings_Split.calls a0 (⟨#[10]⟩:ByteArray) t156 _ A2.out).mono ?_);rintro e w4 ⟨v157,rfl,ho0,hb⟩;refine ⟨_,rfl,?_⟩;have n0_:=Aside0.mk (Kd.R_lower ho0 (below_size q20_));have n1_:=Aside0.mk (below_step q20_ hb);clear HB;have HO158:=n0_;have HB:=n1_;clear n0_ n1_;(try clear hb);(try clear ho0);obtain ⟨Ao5,co5,eo5⟩:=Kd.R_slice HO158.out;subst eo5))
  go_ret2
  exact ⟨_,q21_,q18_,q20_⟩
 rw [if_neg c3] at H
 have c3b0:decide (801 < (t156.length:Int)) = false:=decide_eq_false c3
 have c3b1:decide (801 < t156.length) = false:=decide_eq_false (by omega)
 clear c3
 obtain ⟨y159,hy159⟩:∃ y_:List (S54),y_ = (([]:List (S54))):=⟨_,rfl⟩
 replace H:(if 0 ≤ (wrap64 ((t156.length:Int) - 1)) then (if (wrap64 ((t156.length:Int) - 1)) ≤ (t156.length:Int) then ((some (t156.take ((wrap64 ((t156.length:Int) - 1)):Int).toNat:List ByteArray)).bind fun y162 => (impl_ReadSyms.l0 k a0 y159 y162 (y162.length:Int) 0)) else (none)) else (none)) = some (r1,r2):=by first | (rw [hy159];exact H) | exact H
 have Ny159:=Aside0.mk hy159
 clear hy159
 obtain ⟨ji6,hji6⟩:∃ j_:Int,(wrap64 ((t156.length:Int) - 1)) = j_:=⟨_,rfl⟩
 (first | rewrite [hji6] at H | simp only [hji6] at H)
 (try rw [hji6] at A2)
 have hji6w:(IntKind.i64.wrap ((t156.length:Int) - 1)) = ji6:=(i64_w _).trans hji6
 by_cases c7:0 ≤ (ji6)
 rotate_left
 ·rw [if_neg c7] at H
  exact absurd H (by simp)
 rw [if_pos c7] at H
 have c7b0:=eq_true c7
 have c7b1:=decide_eq_true c7
 clear c7
 by_cases c8:(ji6) ≤ (t156.length:Int)
 rotate_left
 ·rw [if_neg c8] at H
  exact absurd H (by simp)
 rw [if_pos c8] at H
 have c8b0:=eq_true c8
 have c8b1:=decide_eq_true c8
 clear c8
 obtain ⟨y162,hy162⟩:∃ y_:List ByteArray,y_ = (t156.take ((ji6):Int).toNat):=⟨_,rfl⟩
 replace H:(impl_ReadSyms.l0 k a0 y159 y162 (y162.length:Int) 0) = some (r1,r2):=by first | (rw [hy162];exact H) | exact H
 have Ny162:=Aside0.mk hy162
 clear hy162
 have H':=Aside0.mk H
 clear H
 go_enter Tryd.func21,Tryd.ntmps21
 go_wp2_with (first | ((with_reducible refine gate_callee (f:=32) rfl ?_);refine goesL_ (some 13) rfl rfl Tryd.func32 (by kernel_rfl) rfl #[.string a0,.string (⟨#[10]⟩:ByteArray)] rfl q19_ ?_;(with_reducible refine (strings_Split.calls a0 (⟨#[10]⟩:ByteArray) t156 _ A2.out).mono ?_);rintro e w9 ⟨v157,rfl,ho0,hb⟩;refine ⟨_,rfl,?_⟩;have n0_:=Aside0.mk (Kd.R_lower ho0 (below_size q20_));have n1_:=Aside0.mk (below_step q20_ hb);clear HB;have HO158:=n0_;have HB:=n1_;clear n0_ n1_;(try clear hb);(try clear ho0);obtain ⟨Ao10,co10,eo10⟩:=Kd.R_slice HO158.out;subst eo10) | ((with_reducible refine gate_dst (N:=17) rfl ?_);refine Kd.R_lit k54 _ 54 ?hg (N:=17) ?hd (xs:=([]:List (S54))) (inner:=[]) (ok:=fun _ => True) (okp:=fun _ => True) ?hr ?hp (fun _ hk => hk) trivial (Below.refl _ _) (Nat.le_refl _) (by simp) ?_;(case hd => rfl);(case hg => rfl);(case hr => exact q51_);(case hp => exact (Reps.none _ _));intro v160 w11 ho12 hb hg_ hnew_;clear hg_ hnew_;(first | rw [← Ny159.out] at ho12 | (simp only [Int.reduceToNat] at ho12;rw [← Ny159.out] at ho12));have n0_:=Aside0.mk (Kd.R_below (by (with_reducible repeat (first | apply Kd.R_alloc | apply Kd.R_drewN | apply Kd.R_drew));exact HO158.out) hb);have n1_:=Aside0.mk (Kd.R_lower ho12 (below_size q20_));have n2_:=Aside0.mk (below_step q20_ hb);clear HO158;clear HB;have HO158:=n0_;have HO161:=n1_;have HB:=n2_;clear n0_ n1_ n2_;clear hb ho12;have q13:((ji6):Int) ≤ ((t156.length:Int):Int):=of_decide_eq_true q36_;obtain ⟨i013,hi013,_,hsz13,_⟩:=info_parts info9;have hroom13:t156.length ≤ co10:=(Kd.R_reads' HO158.out).2.1;have hC13:Kd.C Kd.string _ Ao10 t156.length t156:=(Kd.R_reads' HO158.out).2.2;have hcut13:=cut_to (P:=Tryd.prog) 25 9 .i64 Tryd.underlying25 hi013 Ao10 t156.length co10 (ji6) (of_decide_eq_true q36_) q13 hroom13;have hr13:=Kd.C_take (m:=((ji6):Int).toNat) hC13 (by omega);have hy13:y162.length = ((ji6):Int).toNat:=(by rw [Ny162.out,List.length_take];omega);rw [← Ny162.out] at hr13;rw [← hy13] at hcut13;have HR165:=Aside0.mk hr13;have HC165:=Aside0.mk (show y162.length ≤ co10 from by omega);clear hr13 hC13 hroom13 hi013 hsz13;have KY13:=Aside0.mk hy13;clear hy13;have KL13:=Aside0.mk (show ((ji6):Int).toNat ≤ t156.length from by omega);replace q13:=eq_true q13))
 go_loopg [5,24] k (fun kq v5 v24 w' => ∃ (x5_1:List (S54)) (x24_1:Int),v24 = .int .i64 x24_1 ∧ Aside0 (impl_ReadSyms.l0 kq a0 x5_1 y162 (y162.length:Int) x24_1 = some (r1,r2)) ∧ Aside0 (kq ≤ k) ∧ Aside0 (Kd.R k54 54 w' w.heap.size (fun _ => True) v5 x5_1) ∧ Aside0 (Below w.heap.size w w') ∧ Aside0 (Kd.R Kd.string 9 w' w.heap.size (fun _ => True) (.slice Ao10 t156.length co10) t156))
 case atStart => exact ⟨(y159),(0),q26_,q25_,⟨Nat.le_refl _⟩,⟨by (with_reducible repeat (first | apply Kd.R_alloc | apply Kd.R_drewN | apply Kd.R_drew));exact HO161.out⟩,⟨q20_⟩,⟨by (with_reducible repeat (first | apply Kd.R_alloc | apply Kd.R_drewN | apply Kd.R_drew));exact HO158.out⟩⟩
 clear H'
 try clear q1
 try clear c2
 try clear p2
 try clear c3
 try clear c3b0
 try clear c3b1
 try clear p6
 try clear c7
 try clear c7b0
 try clear c7b1
 try clear c8
 try clear c8b0
 try clear c8b1
 try clear q13 q13
 obtain ⟨x5_1,x24_1,rfl,HA,HK1,HO_5,HB,HOW⟩:=hrel
 cases gk with
 | zero => exact absurd HA.out (by simp [impl_ReadSyms.l0])
 | succ k1 =>
  have H:=HA.out
  clear HA
  simp only [impl_ReadSyms.l0] at H
  by_cases c14:x24_1 < (y162.length:Int)
  ·rw [if_pos c14] at H
   have c14b0:=decide_eq_true c14
   clear c14
   by_cases c15:0 ≤ x24_1
   rotate_left
   ·rw [if_neg c15] at H
    exact absurd H (by simp)
   rw [if_pos c15] at H
   have c15b0:=decide_eq_true c15
   clear c15
   by_cases c16:x24_1 < (y162.length:Int)
   rotate_left
   ·rw [if_neg c16] at H
    exact absurd H (by simp)
   rw [if_pos c16] at H
   have c16b0:=decide_eq_true c16
   clear c16
   by_cases c17:((rdOf ByteArray.empty y162 x24_1).size:Int) < 8
   ·rw [if_pos c17] at H
    have c17b0:=decide_eq_true c17
    have c17b1:decide ((rdOf ByteArray.empty y162 x24_1).size < 8) = true:=decide_eq_true (by omega)
    clear c17
    simp only [Option.some.injEq,Prod.mk.injEq] at H
    obtain ⟨rfl,rfl⟩:=H
    have p166:0 ≤ (x24_1:Int):=of_decide_eq_true q36_
    have q166:x24_1 < (y162.length:Int):=of_decide_eq_true q36_
    have hCW:=Kd.C_take (m:=((ji6):Int).toNat) (Kd.R_reads' HOW.out).2.2 (by have:=KL13.out;omega)
    rw [← Ny162.out] at hCW
    obtain ⟨ad166,e166,hx166_0⟩:=Kd.at_string hCW x24_1 p166 q166
    cases e166
    clear hCW
    replace p166:=eq_true p166
    replace q166:=eq_true q166
    go_wp2
    go_ret2
    exact ⟨_,q4_,q18_,q20_⟩
   rw [if_neg c17] at H
   have c17b0:=decide_eq_false c17
   have c17b1:decide ((rdOf ByteArray.empty y162 x24_1).size < 8) = false:=decide_eq_false (by omega)
   clear c17
   by_cases c18:0 ≤ 2
   rotate_left
   ·rw [if_neg c18] at H
    exact absurd H (by simp)
   rw [if_pos c18] at H
   have c18b0:=eq_true c18
   have c18b1:=decide_eq_true c18
   clear c18
   by_cases c19:2 ≤ ((rdOf ByteArray.empty y162 x24_1).size:Int)
   rotate_left
   ·rw [if_neg c19] at H
    exact absurd H (by simp)
   rw [if_pos c19] at H
   have c19b0:=eq_true c19
   have c19b1:=decide_eq_true c19
   clear c19
   by_cases c20:1 + ((rdOf ByteArray.empty y162 x24_1).extract 0 2).size ≤ 9223372036854775807
   rotate_left
   ·rw [if_neg c20] at H
    exact absurd H (by simp)
   rw [if_pos c20] at H
   have c20b0:=eq_true c20
   (try (have c20b0e:=c20b0;simp only [ByteArray.size_append,ByteArray.size_extract,Nat.min_self,Nat.sub_zero] at c20b0e))
   have c20b1:=decide_eq_true c20
   (try (have c20b1e:=c20b1;simp only [ByteArray.size_append,ByteArray.size_extract,Nat.min_self,Nat.sub_zero] at c20b1e))
   try have c20b2:(9223372036854775807 < 1 + ((rdOf ByteArray.empty y162 x24_1).extract 0 2).size) = False:=eq_false (Nat.not_lt.2 c20)
   (try (have c20b2e:=c20b2;simp only [ByteArray.size_append,ByteArray.size_extract,Nat.min_self,Nat.sub_zero] at c20b2e))
   (try (first | (have c20b2p:=eq_true (of_decide_eq_true c20b2e)) | (have c20b2p:=eq_false (of_decide_eq_false c20b2e))))
   replace H:=Option.bind_eq_some_iff.mp H
   obtain ⟨⟨t167,t168⟩,A210,H⟩:=H
   try dsimp -simprocs -eta only at H
   have A21:=Aside0.mk A210
   clear A210
   by_cases c22:3 ≤ 7
   rotate_left
   ·rw [if_neg c22] at H
    exact absurd H (by simp)
   rw [if_pos c22] at H
   have c22b0:=eq_true c22
   have c22b1:=decide_eq_true c22
   clear c22
   by_cases c23:7 ≤ ((rdOf ByteArray.empty y162 x24_1).size:Int)
   rotate_left
   ·rw [if_neg c23] at H
    exact absurd H (by simp)
   rw [if_pos c23] at H
   have c23b0:=eq_true c23
   have c23b1:=decide_eq_true c23
   clear c23
   by_cases c24:1 + ((rdOf ByteArray.empty y162 x24_1).extract 3 7).size ≤ 9223372036854775807
   rotate_left
   ·rw [if_neg c24] at H
    exact absurd H (by simp)
   rw [if_pos c24] at H
   have c24b0:=eq_true c24
   (try (have c24b0e:=c24b0;simp only [ByteArray.size_append,ByteArray.size_extract,Nat.min_self,Nat.sub_zero] at c24b0e))
   have c24b1:=decide_eq_true c24
   (try (have c24b1e:=c24b1;simp only [ByteArray.size_append,ByteArray.size_extract,Nat.min_self,Nat.sub_zero] at c24b1e))
   try have c24b2:(9223372036854775807 < 1 + ((rdOf ByteArray.empty y162 x24_1).extract 3 7).size) = False:=eq_false (Nat.not_lt.2 c24)
   (try (have c24b2e:=c24b2;simp only [ByteArray.size_append,ByteArray.size_extract,Nat.min_self,Nat.sub_zero] at c24b2e))
   (try (first | (have c24b2p:=eq_true (of_decide_eq_true c24b2e)) | (have c24b2p:=eq_false (of_decide_eq_false c24b2e))))
   replace H:=Option.bind_eq_some_iff.mp H
   obtain ⟨⟨t169,t170⟩,A250,H⟩:=H
   try dsimp -simprocs -eta only at H
   have A25:=Aside0.mk A250
   clear A250
   by_cases c26:8 ≤ ((rdOf ByteArray.empty y162 x24_1).size:Int)
   rotate_left
   ·rw [if_neg c26] at H
    exact absurd H (by simp)
   rw [if_pos c26] at H
   have c26b0:=eq_true c26
   have c26b1:=decide_eq_true c26
   clear c26
   by_cases c27:x5_1.length < 4398046511104
   rotate_left
   ·rw [if_neg c27] at H
    exact absurd H (by simp)
   rw [if_pos c27] at H
   have LMc27:=Aside0.mk c27
   clear c27
   obtain ⟨y171,hy171⟩:∃ y_:List (S54),y_ = (x5_1 ++ [(⟨(rdOf ByteArray.empty y162 x24_1).extract 8 (rdOf ByteArray.empty y162 x24_1).size,t167,t169⟩:S54)]):=⟨_,rfl⟩
   replace H:(impl_ReadSyms.l0 k1 a0 y171 y162 (y162.length:Int) (wrap64 (x24_1 + 1))) = some (r1,r2):=by first | (rw [hy171];exact H) | exact H
   have Ny171:=Aside0.mk hy171
   clear hy171
   have H':=Aside0.mk H
   clear H
   have p166:0 ≤ (x24_1:Int):=of_decide_eq_true q36_
   have q166:x24_1 < (y162.length:Int):=of_decide_eq_true q36_
   have hCW:=Kd.C_take (m:=((ji6):Int).toNat) (Kd.R_reads' HOW.out).2.2 (by have:=KL13.out;omega)
   rw [← Ny162.out] at hCW
   obtain ⟨ad166,e166,hx166_0⟩:=Kd.at_string hCW x24_1 p166 q166
   cases e166
   clear hCW
   replace p166:=eq_true p166
   replace q166:=eq_true q166
   go_wp2_with (first | ((with_reducible refine gate_callee (f:=49) rfl ?_);refine goesL_ (some 35) rfl rfl Tryd.func49 (by kernel_rfl) rfl #[.string ((⟨#[36]⟩:ByteArray) ++ ((rdOf ByteArray.empty y162 x24_1).extract 0 2))] rfl q19_ ?_;(with_reducible refine (impl_ReadNum.calls k1 ((⟨#[36]⟩:ByteArray) ++ ((rdOf ByteArray.empty y162 x24_1).extract 0 2)) t167 t168 _ A21.out).mono ?_);rintro e w' ⟨rfl,⟨nd,rfl⟩⟩;refine ⟨_,rfl,?_⟩) | ((with_reducible refine gate_callee (f:=49) rfl ?_);refine goesL_ (some 42) rfl rfl Tryd.func49 (by kernel_rfl) rfl #[.string ((⟨#[36]⟩:ByteArray) ++ ((rdOf ByteArray.empty y162 x24_1).extract 3 7))] rfl q19_ ?_;(with_reducible refine (impl_ReadNum.calls k1 ((⟨#[36]⟩:ByteArray) ++ ((rdOf ByteArray.empty y162 x24_1).extract 3 7)) t169 t170 _ A25.out).mono ?_);rintro e w' ⟨rfl,⟨nd,rfl⟩⟩;refine ⟨_,rfl,?_⟩) | ((with_reducible refine gate_builtin (b:=.append) (xs:=#[.tmp 45,.tmp 51]) rfl ?_);at_builtin;refine Kd.R_append k54 (w0:=w) w.heap.size rfl (.tmp 45) (.tmp 51) 35 54 (.agg #[(.string ⟨#[]⟩),(.int .i64 0),(.int .i64 0)]) 32 rfl Tryd.underlying35 info54 rfl (by decide) (by omega) u5 x5_1 (⟨(rdOf ByteArray.empty y162 x24_1).extract 8 (rdOf ByteArray.empty y162 x24_1).size,t167,t169⟩:S54) [.string ((rdOf ByteArray.empty y162 x24_1).extract 8 (rdOf ByteArray.empty y162 x24_1).size),.int .i64 t167,.int .i64 t169] (fun _ => True) (fun _ => False) rfl rfl ?aP (fun _ hk => hk.elim) ?aF ?aO ?aB ?aS ?aL ?_;(case aP => exact k54_mkM _ _ _ (⟨(rdOf ByteArray.empty y162 x24_1).extract 8 (rdOf ByteArray.empty y162 x24_1).size,t167,t169⟩:S54));(case aB => exact q20_);(case aF => exact (fun _ _ => trivial));(case aO => exact q32_);(case aS => exact (below_size q20_));(case aL => have:=LMc27.out;omega);intro v172 w28 ho hb hg hat;rw [← Ny171.out] at ho;have n0_:=Aside0.mk (hb);have n1_:=Aside0.mk (ho);have n7_:=Aside0.mk (Kd.R_over' (by (with_reducible repeat (first | apply Kd.R_alloc | apply Kd.R_drewN | apply Kd.R_drew));exact HOW.out) (Kd.R_typed q32_) (by decide) hg);clear HOW;have HOW:=n7_;clear n7_;clear HB;clear HO_5;have HB:=n0_;have HO173:=n1_;clear n0_ n1_;clear ho hb hg hat))
   go_roundg k1
   case measure => have:=HK1.out;omega
   case rel => exact ⟨(y171),(wrap64 (x24_1 + 1)),q26_,q25_,⟨by have:=HK1.out;omega⟩,⟨by (with_reducible repeat (first | apply Kd.R_alloc | apply Kd.R_drewN | apply Kd.R_drew));exact HO173.out⟩,⟨q20_⟩,⟨by (with_reducible repeat (first | apply Kd.R_alloc | apply Kd.R_drewN | apply Kd.R_drew));exact HOW.out⟩⟩
  rw [if_neg c14] at H
  have c14b0:=decide_eq_false c14
  clear c14
  replace H:=Option.bind_eq_some_iff.mp H
  obtain ⟨t174,A290,H⟩:=H
  have A29:=Aside0.mk A290
  clear A290
  by_cases c30:t174 = true
  ·subst c30
   rewrite [if_pos rfl] at H
   replace H:=Option.bind_eq_some_iff.mp H
   obtain ⟨t175,A310,H⟩:=H
   have A31:=Aside0.mk A310
   clear A310
   by_cases c32:t175.toList = a0.toList
   ·rw [if_pos c32] at H
    have c32b0:(t175.toList == a0.toList) = true:=beq_iff_eq.mpr c32
    have c32b1:(t175.toList != a0.toList) = false:=bne_eq_false_iff_eq.mpr c32
    clear c32
    simp only [Option.some.injEq,Prod.mk.injEq] at H
    obtain ⟨rfl,rfl⟩:=H
    obtain ⟨Ao33,co33,eo33⟩:=Kd.R_slice HO_5.out
    subst eo33
    go_wp2_with (first | ((with_reducible refine gate_callee (f:=47) rfl ?_);refine goesL_ (some 55) rfl rfl Tryd.func47 (by kernel_rfl) rfl #[.slice Ao33 x5_1.length co33] rfl q19_ ?_;(with_reducible refine (impl_areSyms.calls k1 _ _ x5_1 true _ ?side1 ?side2 A29.out).mono ?_);(case side1 => exact q44_);(case side2 => exact (Kd.R_reads' HO_5.out).2.1);rintro e w34 ⟨rfl,hb⟩;refine ⟨_,rfl,?_⟩;have n0_:=Aside0.mk (Kd.R_below q32_ hb);have n1_:=Aside0.mk (below_step q20_ hb);clear HO_5;clear HB;have HO_5:=n0_;have HB:=n1_;clear n0_ n1_;(try clear hb)) | (go_at_call 48;(with_reducible refine (impl_symText.calls k1 _ _ x5_1 t175 _ ?side1 ?side2 A31.out).mono ?_);(case side1 => exact q44_);(case side2 => exact (Kd.R_reads' HO_5.out).2.1);rintro e w35 ⟨rfl,hb⟩;have n0_:=Aside0.mk (Kd.R_below q32_ hb);have n1_:=Aside0.mk (below_step q20_ hb);clear HO_5;clear HB;have HO_5:=n0_;have HB:=n1_;clear n0_ n1_;(try clear hb)))
    go_ret2
    exact ⟨_,q4_,q32_,q20_⟩
   rw [if_neg c32] at H
   have c32b0:(t175.toList == a0.toList) = false:=beq_eq_false_iff_ne.mpr c32
   have c32b1:(t175.toList != a0.toList) = true:=bne_iff_ne.mpr c32
   simp only [Option.some.injEq,Prod.mk.injEq] at H
   obtain ⟨rfl,rfl⟩:=H
   obtain ⟨Ao36,co36,eo36⟩:=Kd.R_slice HO_5.out
   subst eo36
   go_wp2_with (first | ((with_reducible refine gate_callee (f:=47) rfl ?_);refine goesL_ (some 55) rfl rfl Tryd.func47 (by kernel_rfl) rfl #[.slice Ao36 x5_1.length co36] rfl q19_ ?_;(with_reducible refine (impl_areSyms.calls k1 _ _ x5_1 true _ ?side1 ?side2 A29.out).mono ?_);(case side1 => exact q44_);(case side2 => exact (Kd.R_reads' HO_5.out).2.1);rintro e w37 ⟨rfl,hb⟩;refine ⟨_,rfl,?_⟩;have n0_:=Aside0.mk (Kd.R_below q32_ hb);have n1_:=Aside0.mk (below_step q20_ hb);clear HO_5;clear HB;have HO_5:=n0_;have HB:=n1_;clear n0_ n1_;(try clear hb)) | (go_at_call 48;(with_reducible refine (impl_symText.calls k1 _ _ x5_1 t175 _ ?side1 ?side2 A31.out).mono ?_);(case side1 => exact q44_);(case side2 => exact (Kd.R_reads' HO_5.out).2.1);rintro e w38 ⟨rfl,hb⟩;have n0_:=Aside0.mk (Kd.R_below q32_ hb);have n1_:=Aside0.mk (below_step q20_ hb);clear HO_5;clear HB;have HO_5:=n0_;have HB:=n1_;clear n0_ n1_;(try clear hb)))
   go_ret2
   exact ⟨_,q4_,q18_,q20_⟩
  replace c30:=Bool.eq_false_iff.mpr c30
  subst c30
  rewrite [if_neg (show ¬ (false = true) by decide)] at H
  simp only [Option.some.injEq,Prod.mk.injEq] at H
  obtain ⟨rfl,rfl⟩:=H
  obtain ⟨Ao39,co39,eo39⟩:=Kd.R_slice HO_5.out
  subst eo39
  go_wp2_with (first | ((with_reducible refine gate_callee (f:=47) rfl ?_);refine goesL_ (some 55) rfl rfl Tryd.func47 (by kernel_rfl) rfl #[.slice Ao39 x5_1.length co39] rfl q19_ ?_;(with_reducible refine (impl_areSyms.calls k1 _ _ x5_1 false _ ?side1 ?side2 A29.out).mono ?_);(case side1 => exact q44_);(case side2 => exact (Kd.R_reads' HO_5.out).2.1);rintro e w40 ⟨rfl,hb⟩;refine ⟨_,rfl,?_⟩;have n0_:=Aside0.mk (Kd.R_below q32_ hb);have n1_:=Aside0.mk (below_step q20_ hb);clear HO_5;clear HB;have HO_5:=n0_;have HB:=n1_;clear n0_ n1_;(try clear hb)))
  go_ret2
  exact ⟨_,q4_,q18_,q20_⟩
def spec_l1Letter.f (a0:Int):Option (Bool):=if a0 ≥ 97 then (if a0 ≤ 122 then (some true) else (if a0 = 95 then (some true) else (some (a0 == 46)))) else (if a0 = 95 then (some true) else (some (a0 == 46)))
theorem spec_l1Letter.calls (a0:Int) (r:Bool) (w:World) (h:spec_l1Letter.f a0 = some r) :
  Calls Tryd.prog 61 #[.int .u8 a0] w fun e w' => e = .returned (.bool r) ∧ Drawn0 w w':=by
 have H:=h;unfold spec_l1Letter.f at H
 clear h
 by_cases c2:a0 ≥ 97
 ·rw [if_pos c2] at H
  have c2b0:decide (97 ≤ a0) = true:=decide_eq_true c2
  clear c2
  by_cases c3:a0 ≤ 122
  ·rw [if_pos c3] at H
   have c3b0:=decide_eq_true c3
   clear c3
   obtain rfl:=Option.some.inj H
   go_enter Tryd.func61,Tryd.ntmps61
   go_wp2
   go_ret
   exact ⟨q26_,q34_⟩
  rw [if_neg c3] at H
  have c3b0:=decide_eq_false c3
  clear c3
  by_cases c4:a0 = 95
  ·rw [if_pos c4] at H
   have c4b0:(a0 == 95) = true:=beq_iff_eq.mpr c4
   have c4b1:(a0 != 95) = false:=bne_eq_false_iff_eq.mpr c4
   clear c4
   obtain rfl:=Option.some.inj H
   go_enter Tryd.func61,Tryd.ntmps61
   go_wp2
   go_ret
   exact ⟨q26_,q34_⟩
  rw [if_neg c4] at H
  have c4b0:(a0 == 95) = false:=beq_eq_false_iff_ne.mpr c4
  have c4b1:(a0 != 95) = true:=bne_iff_ne.mpr c4
  obtain rfl:=Option.some.inj H
  go_enter Tryd.func61,Tryd.ntmps61
  go_wp2
  go_ret
  exact ⟨q26_,q34_⟩
 rw [if_neg c2] at H
 have c2b0:decide (97 ≤ a0) = false:=decide_eq_false c2
 clear c2
 by_cases c5:a0 = 95
 ·rw [if_pos c5] at H
  have c5b0:(a0 == 95) = true:=beq_iff_eq.mpr c5
  have c5b1:(a0 != 95) = false:=bne_eq_false_iff_eq.mpr c5
  clear c5
  obtain rfl:=Option.some.inj H
  go_enter Tryd.func61,Tryd.ntmps61
  go_wp2
  go_ret
  exact ⟨q26_,q34_⟩
 rw [if_neg c5] at H
 have c5b0:(a0 == 95) = false:=beq_eq_false_iff_ne.mpr c5
 have c5b1:(a0 != 95) = true:=bne_iff_ne.mpr c5
 obtain rfl:=Option.some.inj H
 go_enter Tryd.func61,Tryd.ntmps61
 go_wp2
 go_ret
 exact ⟨q26_,q34_⟩
end Go.Proofs.YtoiiaklmjpiejaaDoor.QFnSymTexts
