/- The machine's side of a law,written by a program of this session for this claim. -/
import Derived.Test.YtabbdfchibjndaaGreatDoorXQq
import Derived.Test.YtabbdfchibjndaaGreatDoorXQFnExprTextsx0
import Derived.Test.YtabbdfchibjndaaGreatDoorXQFnExprTextsx2
import Derived.Test.YtabbdfchibjndaaGreatDoorXQFnExprTextsx4
import Derived.Test.YtabbdfchibjndaaGreatDoorXQFnExprTextsx9
namespace Go.Proofs.YtabbdfchibjndaaGreatDoor.QFnExprTexts
open Go.Proofs.YtabbdfchibjndaaGreatDoor.Qq
open Go.RowKit Go.Proofs.YtabbdfchibjndaaGreatDoor.LibX Go.Proofs.YtabbdfchibjndaaGreatDoor.LibE Go.Proofs.YtabbdfchibjndaaGreatDoor.LibG Go.Proofs.YtabbdfchibjndaaGreatDoor.LibCv Go.Proofs.YtabbdfchibjndaaGreatDoorW.PrintWords Go.Proofs.YtabbdfchibjndaaGreatDoorW.PrintLast Go.Proofs.YtabbdfchibjndaaGreatDoorW.PrintMore
attribute [local go_sem] max2_int min2_int max_two min_two max_three min_three max_four min_four   -- for this text's walks alone
set_option maxHeartbeats 8000000
set_option maxRecDepth 100000
set_option linter.unusedVariables false
set_option linter.unusedSimpArgs false
def spec_l1Rd_hurt.f (s0_0:List Int) (s0_1:Int) (a1:ByteArray):Option (ByteArray × Int):=(spec_l1Rd_below.f s0_0 s0_1 6).bind fun bt316 => (if bt316.1 = 1 then ((spec_l1Rd_below.f s0_0 bt316.2 (wrap64 ((a1.size:Int) + 1))).bind fun bt318 => (if 0 ≤ bt318.1 then (if bt318.1 ≤ (a1.size:Int) then (some (a1.extract 0 (bt318.1:Int).toNat,bt318.2)) else (none)) else (none))) else (if bt316.1 = 2 then (if (a1.size:Int) > 0 then ((spec_l1Rd_below.f s0_0 bt316.2 (a1.size:Int)).bind fun bt320 => (if 0 ≤ bt320.1 then (if bt320.1 ≤ (a1.size:Int) then ((some (([(⟨#[48]⟩:ByteArray),(⟨#[97]⟩:ByteArray),(⟨#[32]⟩:ByteArray),(⟨#[44]⟩:ByteArray),(⟨#[36]⟩:ByteArray),(⟨#[43]⟩:ByteArray)]:List ByteArray):List ByteArray)).bind fun y322 => ((spec_l1Rd_below.f s0_0 bt320.2 6).bind fun bt325 => (if 0 ≤ bt325.1 then (if bt325.1 < (y322.length:Int) then (if (a1.extract 0 (bt320.1:Int).toNat).size + (rdOf ByteArray.empty y322 bt325.1).size ≤ 9223372036854775807 then (if 0 ≤ (wrap64 (bt320.1 + 1)) then (if (wrap64 (bt320.1 + 1)) ≤ (a1.size:Int) then (if ((a1.extract 0 (bt320.1:Int).toNat) ++ (rdOf ByteArray.empty y322 bt325.1)).size + (a1.extract ((wrap64 (bt320.1 + 1)):Int).toNat a1.size).size ≤ 9223372036854775807 then (some (((a1.extract 0 (bt320.1:Int).toNat) ++ (rdOf ByteArray.empty y322 bt325.1)) ++ (a1.extract ((wrap64 (bt320.1 + 1)):Int).toNat a1.size),bt325.2)) else (none)) else (none)) else (none)) else (none)) else (none)) else (none)))) else (none)) else (none))) else (some (a1,bt316.2))) else (if bt316.1 = 3 then ((some (([(⟨#[32]⟩:ByteArray),(⟨#[48]⟩:ByteArray),(⟨#[120]⟩:ByteArray)]:List ByteArray):List ByteArray)).bind fun y328 => ((spec_l1Rd_below.f s0_0 bt316.2 3).bind fun bt331 => (if 0 ≤ bt331.1 then (if bt331.1 < (y328.length:Int) then (if a1.size + (rdOf ByteArray.empty y328 bt331.1).size ≤ 9223372036854775807 then (some (a1 ++ (rdOf ByteArray.empty y328 bt331.1),bt331.2)) else (none)) else (none)) else (none)))) else (some (a1,bt316.2)))))
def spec_l1Rd_hurt.T7:Bool × List (List Nat × List Nat):=(true,[([],[]),([],[]),([0,1],[0,1]),([],[]),([],[]),([4],[4]),([3,5],[3,5]),([6],[6]),([2,7],[2,7]),([],[]),([],[]),([10],[10]),([9,11],[9,11]),([8,12],[8,12]),([13,5,0,1,2,3,4,5,6,7,8,9,10,11,12,13],[13])])
def spec_l1Rd_hurt.B7:List Nat:=[0,0,3,0,0,16,56,120,255,0,0,1024,3584,8191,16383]
theorem spec_l1Rd_hurt.tab7:rtab .any (opsOf Tryz.f27 7) = spec_l1Rd_hurt.T7:=by kernel_rfl
theorem spec_l1Rd_hurt.bits7:waitsOk spec_l1Rd_hurt.T7.2 spec_l1Rd_hurt.B7 = true:=by kernel_rfl
theorem spec_l1Rd_hurt.calls (g:Nat) (s0_0:List Int) (s0_1:Int) (a1:ByteArray) (r1:ByteArray) (r2:Int) (w0 w:World) (hI:IsS61 w0 w g s0_0 s0_1) (hB:Below w0.heap.size w0 w) (h:spec_l1Rd_hurt.f s0_0 s0_1 a1 = some (r1,r2)) :
  Calls Tryz.prog 27 #[.pointer (some ⟨g,0,none⟩),.string a1] w fun e w' => e = .returned (.string r1) ∧ IsS61 w0 w' g s0_0 r2 ∧ Below w0.heap.size w0 w' ∧ KeepBut w w' g none:=by
 have HI0:=Aside0.mk hI
 have HK:=Aside0.mk (KeepBut.refl w g none)
 have HL:=Aside0.mk hB.size
 clear hI
 have HW0:=Aside0.mk hB.size
 have HB:=Aside0.mk hB
 clear hB
 have H:=h;unfold spec_l1Rd_hurt.f at H
 clear h
 replace H:=Option.bind_eq_some_iff.mp H
 obtain ⟨⟨t316,t317⟩,A30,H⟩:=H
 try dsimp -simprocs -eta only at H
 have A3:=Aside0.mk A30
 clear A30
 by_cases c4:t316 = 1
 ·rw [if_pos c4] at H
  have c4b0:(t316 == 1) = true:=beq_iff_eq.mpr c4
  have c4b1:(t316 != 1) = false:=bne_eq_false_iff_eq.mpr c4
  clear c4
  replace H:=Option.bind_eq_some_iff.mp H
  obtain ⟨⟨t318,t319⟩,A50,H⟩:=H
  try dsimp -simprocs -eta only at H
  have A5:=Aside0.mk A50
  clear A50
  by_cases c6:0 ≤ t318
  rotate_left
  ·rw [if_neg c6] at H
   exact absurd H (by simp)
  rw [if_pos c6] at H
  have c6b0:=eq_true c6
  have c6b1:=decide_eq_true c6
  clear c6
  by_cases c7:t318 ≤ (a1.size:Int)
  rotate_left
  ·rw [if_neg c7] at H
   exact absurd H (by simp)
  rw [if_pos c7] at H
  have c7b0:=eq_true c7
  have c7b1:=decide_eq_true c7
  clear c7
  simp only [Option.some.injEq,Prod.mk.injEq] at H
  obtain ⟨rfl,rfl⟩:=H
  go_enter Tryz.func27,Tryz.ntmps27
  go_wp2_with (first | ((with_reducible refine gate_callee (f:=42) rfl ?_);refine goesL_ (some 7) rfl rfl Tryz.func42 (by kernel_rfl) rfl #[.pointer (some ⟨g,0,none⟩),.int .i64 6] rfl q22_ ?_;(with_reducible refine (spec_l1Rd_below.calls g s0_0 s0_1 6 t316 t317 w0 _ ?side1 ?side2 A3.out).mono ?_);(case side1 => exact q58_);(case side2 => exact q50_);rintro e w8 ⟨rfl,hi,hb,hk⟩;refine ⟨_,rfl,?_⟩;have n0_:=Aside0.mk (KeepBut.trans q19_ hk (.inl rfl));have n1_:=Aside0.mk (hb);have n2_:=Aside0.mk (hi);clear HK;clear HB;clear HI0;have HK:=n0_;have HB:=n1_;have HI0:=n2_;clear n0_ n1_ n2_;(try clear hb);(try clear hk);(try clear hi)) | ((with_reducible refine gate_callee (f:=42) rfl ?_);refine goesL_ (some 15) rfl rfl Tryz.func42 (by kernel_rfl) rfl #[.pointer (some ⟨g,0,none⟩),.int .i64 (wrap64 ((a1.size:Int) + 1))] rfl (by (try simp only [List.map_toArray,List.map_cons,List.map_nil]);first | done | rfl | (simp only [List.length_drop,List.length_take];rfl) | (refine Eq.trans (b:=#[.pointer (some ⟨g,0,none⟩),.int .i64 (((a1.size:Int) + 1))]) rfl ?_;simp [wrap64] <;> omega)) ?_;(with_reducible refine (spec_l1Rd_below.calls g s0_0 t317 (wrap64 ((a1.size:Int) + 1)) t318 t319 w0 _ ?side1 ?side2 A5.out).mono ?_);(case side1 => exact q58_);(case side2 => exact q50_);rintro e w9 ⟨rfl,hi,hb,hk⟩;refine ⟨_,rfl,?_⟩;have n0_:=Aside0.mk (KeepBut.trans q19_ hk (.inl rfl));have n1_:=Aside0.mk (hb);have n2_:=Aside0.mk (hi);clear HK;clear HB;clear HI0;have HK:=n0_;have HB:=n1_;have HI0:=n2_;clear n0_ n1_ n2_;(try clear hb);(try clear hk);(try clear hi)))
  go_ret
  exact ⟨q26_,q18_,q9_,q19_⟩
 rw [if_neg c4] at H
 have c4b0:(t316 == 1) = false:=beq_eq_false_iff_ne.mpr c4
 have c4b1:(t316 != 1) = true:=bne_iff_ne.mpr c4
 by_cases c10:t316 = 2
 ·rw [if_pos c10] at H
  have c10b0:(t316 == 2) = true:=beq_iff_eq.mpr c10
  have c10b1:(t316 != 2) = false:=bne_eq_false_iff_eq.mpr c10
  clear c10
  by_cases c11:(a1.size:Int) > 0
  ·rw [if_pos c11] at H
   have c11b0:decide (0 < (a1.size:Int)) = true:=decide_eq_true c11
   have c11b1:decide (0 < a1.size) = true:=decide_eq_true (by omega)
   clear c11
   replace H:=Option.bind_eq_some_iff.mp H
   obtain ⟨⟨t320,t321⟩,A120,H⟩:=H
   try dsimp -simprocs -eta only at H
   have A12:=Aside0.mk A120
   clear A120
   by_cases c13:0 ≤ t320
   rotate_left
   ·rw [if_neg c13] at H
    exact absurd H (by simp)
   rw [if_pos c13] at H
   have c13b0:=eq_true c13
   have c13b1:=decide_eq_true c13
   clear c13
   by_cases c14:t320 ≤ (a1.size:Int)
   rotate_left
   ·rw [if_neg c14] at H
    exact absurd H (by simp)
   rw [if_pos c14] at H
   have c14b0:=eq_true c14
   have c14b1:=decide_eq_true c14
   clear c14
   obtain ⟨y322,hy322⟩:∃ y_:List ByteArray,y_ = (([(⟨#[48]⟩:ByteArray),(⟨#[97]⟩:ByteArray),(⟨#[32]⟩:ByteArray),(⟨#[44]⟩:ByteArray),(⟨#[36]⟩:ByteArray),(⟨#[43]⟩:ByteArray)]:List ByteArray)):=⟨_,rfl⟩
   replace H:((spec_l1Rd_below.f s0_0 t321 6).bind fun bt325 => (if 0 ≤ bt325.1 then (if bt325.1 < (y322.length:Int) then (if (a1.extract 0 (t320:Int).toNat).size + (rdOf ByteArray.empty y322 bt325.1).size ≤ 9223372036854775807 then (if 0 ≤ (wrap64 (t320 + 1)) then (if (wrap64 (t320 + 1)) ≤ (a1.size:Int) then (if ((a1.extract 0 (t320:Int).toNat) ++ (rdOf ByteArray.empty y322 bt325.1)).size + (a1.extract ((wrap64 (t320 + 1)):Int).toNat a1.size).size ≤ 9223372036854775807 then (some (((a1.extract 0 (t320:Int).toNat) ++ (rdOf ByteArray.empty y322 bt325.1)) ++ (a1.extract ((wrap64 (t320 + 1)):Int).toNat a1.size),bt325.2)) else (none)) else (none)) else (none)) else (none)) else (none)) else (none))) = some (r1,r2):=by first | (rw [hy322];exact H) | exact H
   have Ny322:=Aside0.mk hy322
   clear hy322
   replace H:=Option.bind_eq_some_iff.mp H
   obtain ⟨⟨t325,t326⟩,A150,H⟩:=H
   try dsimp -simprocs -eta only at H
   have A15:=Aside0.mk A150
   clear A150
   by_cases c16:0 ≤ t325
   rotate_left
   ·rw [if_neg c16] at H
    exact absurd H (by simp)
   rw [if_pos c16] at H
   have c16b0:=decide_eq_true c16
   clear c16
   by_cases c17:t325 < (y322.length:Int)
   rotate_left
   ·rw [if_neg c17] at H
    exact absurd H (by simp)
   rw [if_pos c17] at H
   have c17b0:=decide_eq_true c17
   clear c17
   by_cases c18:(a1.extract 0 (t320:Int).toNat).size + (rdOf ByteArray.empty y322 t325).size ≤ 9223372036854775807
   rotate_left
   ·rw [if_neg c18] at H
    exact absurd H (by simp)
   rw [if_pos c18] at H
   have c18b0:=eq_true c18
   (try (have c18b0e:=c18b0;simp only [ByteArray.size_append,ByteArray.size_extract,Nat.min_self,Nat.sub_zero] at c18b0e))
   (try (have c18b0f:=c18b0e;simp only [show min (t320:Int).toNat a1.size = (t320:Int).toNat from Nat.min_eq_left (by have q_:t320 ≤ (a1.size:Int):=of_decide_eq_true q46_;omega)] at c18b0f))
   have c18b1:=decide_eq_true c18
   (try (have c18b1e:=c18b1;simp only [ByteArray.size_append,ByteArray.size_extract,Nat.min_self,Nat.sub_zero] at c18b1e))
   (try (have c18b1f:=c18b1e;simp only [show min (t320:Int).toNat a1.size = (t320:Int).toNat from Nat.min_eq_left (by have q_:t320 ≤ (a1.size:Int):=of_decide_eq_true q46_;omega)] at c18b1f))
   try have c18b2:(9223372036854775807 < (a1.extract 0 (t320:Int).toNat).size + (rdOf ByteArray.empty y322 t325).size) = False:=eq_false (Nat.not_lt.2 c18)
   (try (have c18b2e:=c18b2;simp only [ByteArray.size_append,ByteArray.size_extract,Nat.min_self,Nat.sub_zero] at c18b2e))
   (try (first | (have c18b2p:=eq_true (of_decide_eq_true c18b2e)) | (have c18b2p:=eq_false (of_decide_eq_false c18b2e))))
   (try (have c18b2f:=c18b2e;simp only [show min (t320:Int).toNat a1.size = (t320:Int).toNat from Nat.min_eq_left (by have q_:t320 ≤ (a1.size:Int):=of_decide_eq_true q46_;omega)] at c18b2f))
   obtain ⟨ji19,hji19⟩:∃ j_:Int,(wrap64 (t320 + 1)) = j_:=⟨_,rfl⟩
   (first | rewrite [hji19] at H | simp only [hji19] at H)
   (try rw [hji19] at A3)
   (try rw [hji19] at A12)
   (try rw [hji19] at A15)
   have hji19w:(IntKind.i64.wrap (t320 + 1)) = ji19:=(i64_w _).trans hji19
   by_cases c20:0 ≤ (ji19)
   rotate_left
   ·rw [if_neg c20] at H
    exact absurd H (by simp)
   rw [if_pos c20] at H
   have c20b0:=eq_true c20
   have c20b1:=decide_eq_true c20
   clear c20
   by_cases c21:(ji19) ≤ (a1.size:Int)
   rotate_left
   ·rw [if_neg c21] at H
    exact absurd H (by simp)
   rw [if_pos c21] at H
   have c21b0:=eq_true c21
   have c21b1:=decide_eq_true c21
   clear c21
   by_cases c22:((a1.extract 0 (t320:Int).toNat) ++ (rdOf ByteArray.empty y322 t325)).size + (a1.extract ((ji19):Int).toNat a1.size).size ≤ 9223372036854775807
   rotate_left
   ·rw [if_neg c22] at H
    exact absurd H (by simp)
   rw [if_pos c22] at H
   have c22b0:=eq_true c22
   (try (have c22b0e:=c22b0;simp only [ByteArray.size_append,ByteArray.size_extract,Nat.min_self,Nat.sub_zero] at c22b0e))
   (try (have c22b0f:=c22b0e;simp only [show min (t320:Int).toNat a1.size = (t320:Int).toNat from Nat.min_eq_left (by have q_:t320 ≤ (a1.size:Int):=of_decide_eq_true q46_;omega)] at c22b0f))
   have c22b1:=decide_eq_true c22
   (try (have c22b1e:=c22b1;simp only [ByteArray.size_append,ByteArray.size_extract,Nat.min_self,Nat.sub_zero] at c22b1e))
   (try (have c22b1f:=c22b1e;simp only [show min (t320:Int).toNat a1.size = (t320:Int).toNat from Nat.min_eq_left (by have q_:t320 ≤ (a1.size:Int):=of_decide_eq_true q46_;omega)] at c22b1f))
   try have c22b2:(9223372036854775807 < ((a1.extract 0 (t320:Int).toNat) ++ (rdOf ByteArray.empty y322 t325)).size + (a1.extract ((ji19):Int).toNat a1.size).size) = False:=eq_false (Nat.not_lt.2 c22)
   (try (have c22b2e:=c22b2;simp only [ByteArray.size_append,ByteArray.size_extract,Nat.min_self,Nat.sub_zero] at c22b2e))
   (try (first | (have c22b2p:=eq_true (of_decide_eq_true c22b2e)) | (have c22b2p:=eq_false (of_decide_eq_false c22b2e))))
   (try (have c22b2f:=c22b2e;simp only [show min (t320:Int).toNat a1.size = (t320:Int).toNat from Nat.min_eq_left (by have q_:t320 ≤ (a1.size:Int):=of_decide_eq_true q46_;omega)] at c22b2f))
   simp only [Option.some.injEq,Prod.mk.injEq] at H
   obtain ⟨rfl,rfl⟩:=H
   go_enter Tryz.func27,Tryz.ntmps27
   try go_wp2_with (first | ((with_reducible refine gate_callee (f:=42) rfl ?_);refine goesL_ (some 7) rfl rfl Tryz.func42 (by kernel_rfl) rfl #[.pointer (some ⟨g,0,none⟩),.int .i64 6] rfl q22_ ?_;(with_reducible refine (spec_l1Rd_below.calls g s0_0 s0_1 6 t316 t317 w0 _ ?side1 ?side2 A3.out).mono ?_);(case side1 => exact q58_);(case side2 => exact q50_);rintro e w23 ⟨rfl,hi,hb,hk⟩;refine ⟨_,rfl,?_⟩;have n0_:=Aside0.mk (KeepBut.trans q19_ hk (.inl rfl));have n1_:=Aside0.mk (hb);have n2_:=Aside0.mk (hi);clear HK;clear HB;clear HI0;have HK:=n0_;have HB:=n1_;have HI0:=n2_;clear n0_ n1_ n2_;(try clear hb);(try clear hk);(try clear hi)) | ((with_reducible refine gate_callee (f:=42) rfl ?_);refine goesL_ (some 25) rfl rfl Tryz.func42 (by kernel_rfl) rfl #[.pointer (some ⟨g,0,none⟩),.int .i64 (a1.size:Int)] rfl q22_ ?_;(with_reducible refine (spec_l1Rd_below.calls g s0_0 t317 (a1.size:Int) t320 t321 w0 _ ?side1 ?side2 A12.out).mono ?_);(case side1 => exact q58_);(case side2 => exact q50_);rintro e w24 ⟨rfl,hi,hb,hk⟩;refine ⟨_,rfl,?_⟩;have n0_:=Aside0.mk (KeepBut.trans q19_ hk (.inl rfl));have n1_:=Aside0.mk (hb);have n2_:=Aside0.mk (hi);clear HK;clear HB;clear HI0;have HK:=n0_;have HB:=n1_;have HI0:=n2_;clear n0_ n1_ n2_;(try clear hb);(try clear hk);(try clear hi)))
   have pi327:(0 ≤ (t325:Int)) = True:=eq_true (of_decide_eq_true q46_)
   have qi327:(t325 < (y322.length:Int)) = True:=eq_true (of_decide_eq_true q46_)
   have n0_:=Aside0.mk (IsS61.drew HI0.out)
   have n1_:=Aside0.mk (keep_drew HK.out)
   have n2_:=Aside0.mk (below_drew1 HB.out)
   clear HI0
   clear HK
   clear HB
   have HI0:=n0_
   have HK:=n1_
   have HB:=n2_
   clear n0_ n1_ n2_
   refine start_ (n:=15) (S:=fun w' => True) (ds:=[]) #[false,false,false,false,false,false,false,false,false,false,false,false,false,false,false] (by kernel_rfl) rfl rfl trivial (fun hHeld => ?_);refine with_tabW spec_l1Rd_hurt.tab7 spec_l1Rd_hurt.bits7 (fun HT_ HW_ => ?_)
   generalize w24.drew = w25 at HI0 HK HB hHeld ⊢
   refine pure_ (i:=0) (N:=some 26) (v:=?_) (a':=?_) #[true,false,false,false,false,false,false,false,false,false,false,false,false,false,false] rfl rfl (any_of HT_.out (by kernel_rfl)) (fun _ _ _ h => h) (Or.inl ⟨by rfl,?_⟩) ?_ ?_
   rotate_left
   ·intro w'
    go_simp
    with_reducible rfl
   rotate_left
   ·simp only [Act.put,List.setIfInBounds_toArray,List.set_cons_zero,List.set_cons_succ,i64_w,i32_w]
    rfl
   refine pure_ (i:=1) (N:=some 27) (v:=?_) (a':=?_) #[true,true,false,false,false,false,false,false,false,false,false,false,false,false,false] rfl rfl (any_of HT_.out (by kernel_rfl)) (fun _ _ _ h => h) (Or.inl ⟨by rfl,?_⟩) ?_ ?_
   rotate_left
   ·intro w'
    go_simp
    with_reducible rfl
   rotate_left
   ·simp only [Act.put,List.setIfInBounds_toArray,List.set_cons_zero,List.set_cons_succ,i64_w,i32_w]
    rfl
   refine pure_ (i:=4) (N:=some 30) (v:=?_) (a':=?_) #[true,true,false,false,true,false,false,false,false,false,false,false,false,false,false] rfl rfl (any_of HT_.out (by kernel_rfl)) (fun _ _ _ h => h) (Or.inl ⟨by rfl,?_⟩) ?_ ?_
   rotate_left
   ·intro w'
    go_simp
    with_reducible rfl
   rotate_left
   ·simp only [Act.put,List.setIfInBounds_toArray,List.set_cons_zero,List.set_cons_succ,i64_w,i32_w]
    rfl
   refine pure_ (i:=9) (N:=some 35) (v:=?_) (a':=?_) #[true,true,false,false,true,false,false,false,false,true,false,false,false,false,false] rfl rfl (any_of HT_.out (by kernel_rfl)) (fun _ _ _ h => h) (Or.inl ⟨by rfl,?_⟩) ?_ ?_
   rotate_left
   ·intro w'
    go_simp
    with_reducible rfl
   rotate_left
   ·simp only [Act.put,List.setIfInBounds_toArray,List.set_cons_zero,List.set_cons_succ,i64_w,i32_w]
    rfl
   refine pure_ (i:=10) (N:=some 36) (v:=?_) (a':=?_) #[true,true,false,false,true,false,false,false,false,true,true,false,false,false,false] rfl rfl (any_of HT_.out (by kernel_rfl)) (fun _ _ _ h => h) (Or.inl ⟨by rfl,?_⟩) ?_ ?_
   rotate_left
   ·intro w'
    go_simp
    with_reducible rfl
   rotate_left
   ·simp only [Act.put,List.setIfInBounds_toArray,List.set_cons_zero,List.set_cons_succ,i64_w,i32_w]
    rfl
   refine inv_at [2,3,5,6,7,8,11,12,13,14] (fun a0_ b a w' => ∃ (v323:Value) (adz_v323:Addr) (m6_:Value),a = putSel a0_ b [(2,28,.string (a1.extract 0 (t320:Int).toNat)),(3,29,v323),(5,31,.int .i64 t325),(6,32,m6_),(7,33,.string (rdOf ByteArray.empty y322 t325)),(8,34,.string ((a1.extract 0 (t320:Int).toNat) ++ (rdOf ByteArray.empty y322 t325))),(11,37,.int .i64 ji19),(12,38,.string (a1.extract ((ji19):Int).toNat a1.size)),(13,39,.string (((a1.extract 0 (t320:Int).toNat) ++ (rdOf ByteArray.empty y322 t325)) ++ (a1.extract ((ji19):Int).toNat a1.size))),(14,4,.string (((a1.extract 0 (t320:Int).toNat) ++ (rdOf ByteArray.empty y322 t325)) ++ (a1.extract ((ji19):Int).toNat a1.size)))] ∧ (b 5 = false → IsS61 w0 w' g s0_0 t321) ∧ (KeepBut w w' g none) ∧ (Below w0.heap.size w0 w') ∧ (b 3 = true → Kd.R Kd.string 9 w' w.heap.size (fun _ => True) v323 y322) ∧ (b 3 = true → ∃ c_,(v323:Value) = .slice (some adz_v323) y322.length c_) ∧ (b 5 = true → IsS61 w0 w' g s0_0 t326) ∧ (b 6 = true → (m6_:Value) = .pointer (some (adz_v323.add (t325).toNat)))) HT_.out HW_.out (by kernel_rfl) (by kernel_rfl) ?_ ?_ ?_
   ·exact ⟨.bool false,⟨0,0,none⟩,.bool false,by simp only [putSel,Bool.false_eq_true,if_false],fun _ => HI0.out,HK.out,HB.out,fun h_ => absurd h_ (by decide),fun h_ => absurd h_ (by decide),fun h_ => absurd h_ (by decide),fun h_ => absurd h_ (by decide)⟩
   ·skip
    clear HB HI0 HK
    refine steps_cons ?_ ?_
    ·rintro b a w' ⟨v323,adz_v323,m6_,ha,Q_HI0,Q_HK,Q_HB,Q_HO324,Q_HA_HO324,Q_HI0_e5,Q_X6_⟩ hb_ hon hoff
     refine ⟨_,rfl,fun K hK => ?_⟩
     have e26:a.tmps[26]? = some (.string a1):=by rw [ha];exact (putSel_off rfl).trans rfl
     have e27:a.tmps[27]? = some (.int .i64 t320):=by rw [ha];exact (putSel_off rfl).trans rfl
     replace ha:=Aside0.mk ha
     have HK:=Aside0.mk Q_HK
     have HB:=Aside0.mk Q_HB
     refine value_ (w1:=w') (v:=.string (a1.extract 0 (t320:Int).toNat)) (by rfl) rfl ?_ ?_
     ·go_simp
      (try simp only [i64_w])
      try rfl
     refine hK.out _ _ ⟨v323,adz_v323,m6_,(by rw [ha.out];exact putSel_upk 0 hb_ rfl rfl rfl),Q_HI0,Q_HK,Q_HB,Q_HO324,Q_HA_HO324,Q_HI0_e5,Q_X6_⟩
    refine steps_cons ?_ ?_
    ·rintro b a w' ⟨v323,adz_v323,m6_,ha,Q_HI0,Q_HK,Q_HB,Q_HO324,Q_HA_HO324,Q_HI0_e5,Q_X6_⟩ hb_ hon hoff
     refine ⟨_,rfl,fun K hK => ?_⟩
     replace ha:=Aside0.mk ha
     have HK:=Aside0.mk Q_HK
     have HB:=Aside0.mk Q_HB
     refine Kd.R_lit_step Kd.string _ 9 ?hg (N:=29) ?hd (xs:=([(⟨#[48]⟩:ByteArray),(⟨#[97]⟩:ByteArray),(⟨#[32]⟩:ByteArray),(⟨#[44]⟩:ByteArray),(⟨#[36]⟩:ByteArray),(⟨#[43]⟩:ByteArray)]:List ByteArray)) (inner:=[.string (⟨#[48]⟩:ByteArray),.string (⟨#[97]⟩:ByteArray),.string (⟨#[32]⟩:ByteArray),.string (⟨#[44]⟩:ByteArray),.string (⟨#[36]⟩:ByteArray),.string (⟨#[43]⟩:ByteArray)]) (ok:=fun _ => True) (okp:=fun _ => True) ?hr ?hp (fun _ hk => hk) trivial (Below.refl _ _) (Nat.le_refl _) (by simp) ?_;(case hd => rfl);(case hg => rfl);(case hr => exact q59_);(case hp => exact (Reps.one (show Kd.M Kd.string _ _ _ (⟨#[48]⟩:ByteArray) [.string (⟨#[48]⟩:ByteArray)] from rfl) (Reps.one (show Kd.M Kd.string _ _ _ (⟨#[97]⟩:ByteArray) [.string (⟨#[97]⟩:ByteArray)] from rfl) (Reps.one (show Kd.M Kd.string _ _ _ (⟨#[32]⟩:ByteArray) [.string (⟨#[32]⟩:ByteArray)] from rfl) (Reps.one (show Kd.M Kd.string _ _ _ (⟨#[44]⟩:ByteArray) [.string (⟨#[44]⟩:ByteArray)] from rfl) (Reps.one (show Kd.M Kd.string _ _ _ (⟨#[36]⟩:ByteArray) [.string (⟨#[36]⟩:ByteArray)] from rfl) (Reps.one (show Kd.M Kd.string _ _ _ (⟨#[43]⟩:ByteArray) [.string (⟨#[43]⟩:ByteArray)] from rfl) (Reps.none _ _))))))))
     intro v323 w26 ho27 hb hg_ hnew_
     clear hg_ hnew_
     (first | rw [← Ny322.out] at ho27 | (simp only [Int.reduceToNat] at ho27;rw [← Ny322.out] at ho27))
     have n0_:=Aside0.mk (Kd.R_lower ho27 (keep_size (w:=w) (g:=g) (row:=none) q19_))
     have n2_:=Aside0.mk (KeepBut.trans q19_ (KeepBut.of_below hb g none) (.inl rfl))
     have n3_:=Aside0.mk (below_step q24_ hb)
     have z_HI0:=fun (h0_:b 5 = false) => (show IsS61 w0 w26 g s0_0 t321 from by first | exact (IsS61.below q17_ hb))
     have z_HI0_e5:=fun (h0_:b 5 = true) => (show IsS61 w0 w26 g s0_0 t326 from by first | exact (IsS61.below (by repeat (first | (with_reducible first | exact (Q_HI0_e5 h0_) | apply IsS61.alloc | apply IsS61.drewN | apply IsS61.drew | apply IsS61.set_1) | exact (Q_HI0_e5 h0_))) hb))
     clear HK
     clear HB
     have HO324:=n0_
     have HK:=n2_
     have HB:=n3_
     clear n0_ n2_ n3_
     clear hb ho27
     obtain ⟨Ao28,co28,eo28⟩:=Kd.R_slice HO324.out
     subst eo28
     obtain ⟨ado28,fo28,_⟩:=Kd.at_string (Kd.R_reads' HO324.out).2.2 0 (by decide) (by rw [Ny322.out];simp)
     cases fo28
     refine hK.out _ _ ⟨.slice (some ado28) y322.length co28,ado28,m6_,(by rw [ha.out];exact putSel_upk 1 hb_ rfl rfl rfl),z_HI0,q19_,q24_,fun _ => (by (with_reducible repeat (first | apply Kd.R_alloc | apply Kd.R_drewN | apply Kd.R_drew));exact HO324.out),fun _ => ⟨_,rfl⟩,z_HI0_e5,fun h0_ => absurd ((hoff 6 (by kernel_rfl)).symm.trans h0_) (by decide)⟩
    refine steps_cons ?_ ?_
    ·rintro b a w' ⟨v323,adz_v323,m6_,ha,Q_HI0,Q_HK,Q_HB,Q_HO324,Q_HA_HO324,Q_HI0_e5,Q_X6_⟩ hb_ hon hoff
     refine ⟨_,rfl,fun K hK => ?_⟩
     have e30:a.tmps[30]? = some (.pointer (some ⟨g,0,none⟩)):=by rw [ha];exact (putSel_off rfl).trans rfl
     replace ha:=Aside0.mk ha
     have HI0:=Aside0.mk (Q_HI0 hb_)
     have HK:=Aside0.mk Q_HK
     have HB:=Aside0.mk Q_HB
     refine goes_ Tryz.func42 (by kernel_rfl) rfl #[.pointer (some ⟨g,0,none⟩),.int .i64 6] (by rfl) rfl rfl (by first | (simp only [List.map_toArray,List.map_cons,List.map_nil,Act.eval,Array.getD_eq_getD_getElem?,Option.getD_some,e30];done) | (simp only [List.map_toArray,List.map_cons,List.map_nil,Act.eval,Array.getD_eq_getD_getElem?,Option.getD_some,e30];rfl)) ?_
     with_reducible refine (spec_l1Rd_below.calls g s0_0 t321 6 t325 t326 w0 _ ?side1 ?side2 A15.out).mono ?_
     (case side1 => exact q58_)
     (case side2 => exact q50_)
     rintro e w26 ⟨rfl,hi,hb,hk⟩
     refine ⟨_,rfl,?_⟩
     have n0_:=Aside0.mk (KeepBut.trans q19_ hk (.inl rfl))
     have n1_:=Aside0.mk (hb)
     have n2_:=Aside0.mk (hi)
     have z_HO324:=fun (h0_:b 3 = true) => (show Kd.R Kd.string 9 w26 w.heap.size (fun _ => True) v323 y322 from by first | exact (Kd.R_mono (Kd.R_keep (IsS61.apart (show IsS61 w0 _ g s0_0 t321 from by repeat (first | (with_reducible first | exact HI0.out | apply IsS61.alloc | apply IsS61.drewN | apply IsS61.drew | apply IsS61.set_1) | exact HI0.out)) (by (with_reducible repeat (first | apply Kd.R_alloc | apply Kd.R_drewN | apply Kd.R_drew));exact (Q_HO324 h0_)) (by decide)) hk (fun _ h => h.2)) (fun _ h => h.1)) | exact Kd.R_mono (Kd.R_mono (Kd.R_keep (IsS61.apart (show IsS61 w0 _ g s0_0 t321 from by repeat (first | (with_reducible first | exact HI0.out | apply IsS61.alloc | apply IsS61.drewN | apply IsS61.drew | apply IsS61.set_1) | exact HI0.out)) (by (with_reducible repeat (first | apply Kd.R_alloc | apply Kd.R_drewN | apply Kd.R_drew));exact (Q_HO324 h0_)) (by decide)) hk (fun _ h => h.2)) (fun _ h => h.1)) (fun _ h_ => by first | trivial | exact h_ | exact h_.1))
     clear HK
     clear HB
     clear HI0
     have HK:=n0_
     have HB:=n1_
     have HI0:=n2_
     clear n0_ n1_ n2_
     (try clear hb)
     (try clear hb2)
     (try clear hk)
     (try clear hi)
     refine hK.out _ _ ⟨v323,adz_v323,m6_,(by rw [ha.out];exact putSel_upk 2 hb_ rfl rfl rfl),fun h0_ => absurd ((up_self b 5).symm.trans h0_) (by decide),q19_,q9_,z_HO324,Q_HA_HO324,fun _ => q18_,fun h0_ => absurd ((hoff 6 (by kernel_rfl)).symm.trans h0_) (by decide)⟩
    refine steps_cons ?_ ?_
    ·rintro b a w' ⟨v323,adz_v323,m6_,ha,Q_HI0,Q_HK,Q_HB,Q_HO324,Q_HA_HO324,Q_HI0_e5,Q_X6_⟩ hb_ hon hoff
     refine ⟨_,rfl,fun K hK => ?_⟩
     have e29:a.tmps[29]? = some (v323):=by rw [ha];exact putSel_on (e:=(3,29,v323)) 1 rfl rfl (hon 3 (by kernel_rfl)) rfl
     have e31:a.tmps[31]? = some (.int .i64 t325):=by rw [ha];exact putSel_on (e:=(5,31,.int .i64 t325)) 2 rfl rfl (hon 5 (by kernel_rfl)) rfl
     replace ha:=Aside0.mk ha
     have HK:=Aside0.mk Q_HK
     have HB:=Aside0.mk Q_HB
     have HO324:=Aside0.mk (Q_HO324 (hon 3 (by kernel_rfl)))
     have HA_HO324:=Aside0.mk (Q_HA_HO324 (hon 3 (by kernel_rfl)))
     have HI0:=Aside0.mk (Q_HI0_e5 (hon 5 (by kernel_rfl)))
     obtain ⟨c_,hv_⟩:=HA_HO324.out
     rw [hv_] at e29
     refine value_ (w1:=w') (v:=.pointer (some (adz_v323.add (t325).toNat))) (by rfl) rfl ?_ ?_
     ·go_simp
      (try simp only [i64_w])
      try rfl
     refine hK.out _ _ ⟨v323,adz_v323,(.pointer (some (adz_v323.add (t325).toNat))),(by rw [ha.out];exact putSel_upk 3 hb_ rfl rfl rfl),fun h0_ => absurd ((hon 5 (by kernel_rfl)).symm.trans h0_) (by decide),Q_HK,Q_HB,Q_HO324,Q_HA_HO324,Q_HI0_e5,fun _ => rfl⟩
    refine steps_cons ?_ ?_
    ·rintro b a w' ⟨v323,adz_v323,m6_,ha,Q_HI0,Q_HK,Q_HB,Q_HO324,Q_HA_HO324,Q_HI0_e5,Q_X6_⟩ hb_ hon hoff
     refine ⟨_,rfl,fun K hK => ?_⟩
     have e32:a.tmps[32]? = some (m6_):=by rw [ha];exact putSel_on (e:=(6,32,m6_)) 3 rfl rfl (hon 6 (by kernel_rfl)) rfl
     rw [Q_X6_ (hon 6 (by kernel_rfl))] at e32
     replace ha:=Aside0.mk ha
     have HK:=Aside0.mk Q_HK
     have HB:=Aside0.mk Q_HB
     have HO324:=Aside0.mk (Q_HO324 (hon 3 (by kernel_rfl)))
     have HA_HO324:=Aside0.mk (Q_HA_HO324 (hon 3 (by kernel_rfl)))
     have HI0:=Aside0.mk (Q_HI0_e5 (hon 5 (by kernel_rfl)))
     obtain ⟨c_,hv_⟩:=HA_HO324.out
     have hF_:=HO324.out
     rw [hv_] at hF_
     obtain ⟨ad_,ea_,hx_⟩:=Kd.at_string (Kd.R_reads' hF_).2.2 t325 (of_eq_true pi327) (of_eq_true qi327)
     cases ea_
     refine value_ (w1:=w') (v:=.string (rdOf ByteArray.empty y322 t325)) (by rfl) rfl ?_ ?_
     ·go_simp
      (try simp only [i64_w])
      try rfl
     refine hK.out _ _ ⟨v323,adz_v323,m6_,(by rw [ha.out];exact putSel_upk 4 hb_ rfl rfl rfl),fun h0_ => absurd ((hon 5 (by kernel_rfl)).symm.trans h0_) (by decide),Q_HK,Q_HB,Q_HO324,Q_HA_HO324,Q_HI0_e5,Q_X6_⟩
    refine steps_cons ?_ ?_
    ·rintro b a w' ⟨v323,adz_v323,m6_,ha,Q_HI0,Q_HK,Q_HB,Q_HO324,Q_HA_HO324,Q_HI0_e5,Q_X6_⟩ hb_ hon hoff
     refine ⟨_,rfl,fun K hK => ?_⟩
     have e28:a.tmps[28]? = some (.string (a1.extract 0 (t320:Int).toNat)):=by rw [ha];exact putSel_on (e:=(2,28,.string (a1.extract 0 (t320:Int).toNat))) 0 rfl rfl (hon 2 (by kernel_rfl)) rfl
     have e33:a.tmps[33]? = some (.string (rdOf ByteArray.empty y322 t325)):=by rw [ha];exact putSel_on (e:=(7,33,.string (rdOf ByteArray.empty y322 t325))) 4 rfl rfl (hon 7 (by kernel_rfl)) rfl
     replace ha:=Aside0.mk ha
     have HK:=Aside0.mk Q_HK
     have HB:=Aside0.mk Q_HB
     have HO324:=Aside0.mk (Q_HO324 (hon 3 (by kernel_rfl)))
     have HA_HO324:=Aside0.mk (Q_HA_HO324 (hon 3 (by kernel_rfl)))
     have HI0:=Aside0.mk (Q_HI0_e5 (hon 5 (by kernel_rfl)))
     refine value_ (w1:=w') (v:=.string ((a1.extract 0 (t320:Int).toNat) ++ (rdOf ByteArray.empty y322 t325))) (by rfl) rfl ?_ ?_
     ·go_simp
      (try simp only [i64_w])
      try rfl
     refine hK.out _ _ ⟨v323,adz_v323,m6_,(by rw [ha.out];exact putSel_upk 5 hb_ rfl rfl rfl),fun h0_ => absurd ((hon 5 (by kernel_rfl)).symm.trans h0_) (by decide),Q_HK,Q_HB,Q_HO324,Q_HA_HO324,Q_HI0_e5,Q_X6_⟩
    refine steps_cons ?_ ?_
    ·rintro b a w' ⟨v323,adz_v323,m6_,ha,Q_HI0,Q_HK,Q_HB,Q_HO324,Q_HA_HO324,Q_HI0_e5,Q_X6_⟩ hb_ hon hoff
     refine ⟨_,rfl,fun K hK => ?_⟩
     have e36:a.tmps[36]? = some (.int .i64 t320):=by rw [ha];exact (putSel_off rfl).trans rfl
     replace ha:=Aside0.mk ha
     have HK:=Aside0.mk Q_HK
     have HB:=Aside0.mk Q_HB
     refine value_ (w1:=w') (v:=.int .i64 ji19) (by rfl) rfl ?_ ?_
     ·go_simp
      (try simp only [i64_w])
      try rfl
     refine hK.out _ _ ⟨v323,adz_v323,m6_,(by rw [ha.out];exact putSel_upk 6 hb_ rfl rfl rfl),Q_HI0,Q_HK,Q_HB,Q_HO324,Q_HA_HO324,Q_HI0_e5,Q_X6_⟩
    refine steps_cons ?_ ?_
    ·rintro b a w' ⟨v323,adz_v323,m6_,ha,Q_HI0,Q_HK,Q_HB,Q_HO324,Q_HA_HO324,Q_HI0_e5,Q_X6_⟩ hb_ hon hoff
     refine ⟨_,rfl,fun K hK => ?_⟩
     have e35:a.tmps[35]? = some (.string a1):=by rw [ha];exact (putSel_off rfl).trans rfl
     have e37:a.tmps[37]? = some (.int .i64 ji19):=by rw [ha];exact putSel_on (e:=(11,37,.int .i64 ji19)) 6 rfl rfl (hon 11 (by kernel_rfl)) rfl
     replace ha:=Aside0.mk ha
     have HK:=Aside0.mk Q_HK
     have HB:=Aside0.mk Q_HB
     refine value_ (w1:=w') (v:=.string (a1.extract ((ji19):Int).toNat a1.size)) (by rfl) rfl ?_ ?_
     ·go_simp
      (try simp only [i64_w])
      try rfl
     refine hK.out _ _ ⟨v323,adz_v323,m6_,(by rw [ha.out];exact putSel_upk 7 hb_ rfl rfl rfl),Q_HI0,Q_HK,Q_HB,Q_HO324,Q_HA_HO324,Q_HI0_e5,Q_X6_⟩
    refine steps_cons ?_ ?_
    ·rintro b a w' ⟨v323,adz_v323,m6_,ha,Q_HI0,Q_HK,Q_HB,Q_HO324,Q_HA_HO324,Q_HI0_e5,Q_X6_⟩ hb_ hon hoff
     refine ⟨_,rfl,fun K hK => ?_⟩
     have e34:a.tmps[34]? = some (.string ((a1.extract 0 (t320:Int).toNat) ++ (rdOf ByteArray.empty y322 t325))):=by rw [ha];exact putSel_on (e:=(8,34,.string ((a1.extract 0 (t320:Int).toNat) ++ (rdOf ByteArray.empty y322 t325)))) 5 rfl rfl (hon 8 (by kernel_rfl)) rfl
     have e38:a.tmps[38]? = some (.string (a1.extract ((ji19):Int).toNat a1.size)):=by rw [ha];exact putSel_on (e:=(12,38,.string (a1.extract ((ji19):Int).toNat a1.size))) 7 rfl rfl (hon 12 (by kernel_rfl)) rfl
     replace ha:=Aside0.mk ha
     have HK:=Aside0.mk Q_HK
     have HB:=Aside0.mk Q_HB
     have HO324:=Aside0.mk (Q_HO324 (hon 3 (by kernel_rfl)))
     have HA_HO324:=Aside0.mk (Q_HA_HO324 (hon 3 (by kernel_rfl)))
     have HI0:=Aside0.mk (Q_HI0_e5 (hon 5 (by kernel_rfl)))
     refine value_ (w1:=w') (v:=.string (((a1.extract 0 (t320:Int).toNat) ++ (rdOf ByteArray.empty y322 t325)) ++ (a1.extract ((ji19):Int).toNat a1.size))) (by rfl) rfl ?_ ?_
     ·go_simp
      (try simp only [i64_w])
      try rfl
     refine hK.out _ _ ⟨v323,adz_v323,m6_,(by rw [ha.out];exact putSel_upk 8 hb_ rfl rfl rfl),fun h0_ => absurd ((hon 5 (by kernel_rfl)).symm.trans h0_) (by decide),Q_HK,Q_HB,Q_HO324,Q_HA_HO324,Q_HI0_e5,Q_X6_⟩
    refine steps_cons ?_ ?_
    ·rintro b a w' ⟨v323,adz_v323,m6_,ha,Q_HI0,Q_HK,Q_HB,Q_HO324,Q_HA_HO324,Q_HI0_e5,Q_X6_⟩ hb_ hon hoff
     refine ⟨_,rfl,fun K hK => ?_⟩
     have e39:a.tmps[39]? = some (.string (((a1.extract 0 (t320:Int).toNat) ++ (rdOf ByteArray.empty y322 t325)) ++ (a1.extract ((ji19):Int).toNat a1.size))):=by rw [ha];exact putSel_on (e:=(13,39,.string (((a1.extract 0 (t320:Int).toNat) ++ (rdOf ByteArray.empty y322 t325)) ++ (a1.extract ((ji19):Int).toNat a1.size)))) 8 rfl rfl (hon 13 (by kernel_rfl)) rfl
     replace ha:=Aside0.mk ha
     have HK:=Aside0.mk Q_HK
     have HB:=Aside0.mk Q_HB
     have HO324:=Aside0.mk (Q_HO324 (hon 3 (by kernel_rfl)))
     have HA_HO324:=Aside0.mk (Q_HA_HO324 (hon 3 (by kernel_rfl)))
     have HI0:=Aside0.mk (Q_HI0_e5 (hon 5 (by kernel_rfl)))
     refine value_ (w1:=w') (v:=.string (((a1.extract 0 (t320:Int).toNat) ++ (rdOf ByteArray.empty y322 t325)) ++ (a1.extract ((ji19):Int).toNat a1.size))) (by rfl) rfl ?_ ?_
     ·go_simp
      (try simp only [i64_w])
      try rfl
     refine hK.out _ _ ⟨v323,adz_v323,m6_,(by rw [ha.out];exact putSel_upk 9 hb_ rfl rfl rfl),fun h0_ => absurd ((hon 5 (by kernel_rfl)).symm.trans h0_) (by decide),Q_HK,Q_HB,Q_HO324,Q_HA_HO324,Q_HI0_e5,Q_X6_⟩
    exact steps_nil
   rintro b a w30 hall ⟨v323,adz_v323,m6_,ha,Q_HI0,Q_HK,Q_HB,Q_HO324,Q_HA_HO324,Q_HI0_e5,Q_X6_⟩
   clear HB HI0 HK
   have hb2_:=hall 2 (by kernel_rfl)
   have hb3_:=hall 3 (by kernel_rfl)
   have hb5_:=hall 5 (by kernel_rfl)
   have hb6_:=hall 6 (by kernel_rfl)
   have hb7_:=hall 7 (by kernel_rfl)
   have hb8_:=hall 8 (by kernel_rfl)
   have hb11_:=hall 11 (by kernel_rfl)
   have hb12_:=hall 12 (by kernel_rfl)
   have hb13_:=hall 13 (by kernel_rfl)
   have hb14_:=hall 14 (by kernel_rfl)
   subst ha
   obtain rfl:=Q_X6_ hb6_
   simp only [putSel,hb2_,hb3_,hb5_,hb6_,hb7_,hb8_,hb11_,hb12_,hb13_,hb14_,if_true,Act.put,List.setIfInBounds_toArray,List.set_cons_zero,List.set_cons_succ]
   clear Q_HI0
   have HK:=Aside0.mk Q_HK
   clear Q_HK
   have HB:=Aside0.mk Q_HB
   clear Q_HB
   have HO324:=Aside0.mk (Q_HO324 hb3_)
   clear Q_HO324
   have HA_HO324:=Aside0.mk (Q_HA_HO324 hb3_)
   clear Q_HA_HO324
   have HI0:=Aside0.mk (Q_HI0_e5 hb5_)
   clear Q_HI0_e5
   clear hall hb2_ hb3_ hb5_ hb6_ hb7_ hb8_ hb11_ hb12_ hb13_ hb14_
   obtain ⟨co31,eo31⟩:=HA_HO324.out
   clear HA_HO324
   subst eo31
   try go_wp2
   go_ret
   exact ⟨by first | rfl | (simp [errW_none,errW_some] <;> rfl) | (simp only [← hji19];first | rfl | (simp [errW_none,errW_some] <;> rfl)) | (simp [*,errW_none,errW_some] <;> rfl) | (exfalso;simp_all;done),q18_,q9_,q19_⟩
  rw [if_neg c11] at H
  have c11b0:decide (0 < (a1.size:Int)) = false:=decide_eq_false c11
  have c11b1:decide (0 < a1.size) = false:=decide_eq_false (by omega)
  clear c11
  simp only [Option.some.injEq,Prod.mk.injEq] at H
  obtain ⟨rfl,rfl⟩:=H
  go_enter Tryz.func27,Tryz.ntmps27
  go_wp2_with (first | ((with_reducible refine gate_callee (f:=42) rfl ?_);refine goesL_ (some 7) rfl rfl Tryz.func42 (by kernel_rfl) rfl #[.pointer (some ⟨g,0,none⟩),.int .i64 6] rfl q22_ ?_;(with_reducible refine (spec_l1Rd_below.calls g s0_0 s0_1 6 t316 t317 w0 _ ?side1 ?side2 A3.out).mono ?_);(case side1 => exact q58_);(case side2 => exact q50_);rintro e w32 ⟨rfl,hi,hb,hk⟩;refine ⟨_,rfl,?_⟩;have n0_:=Aside0.mk (KeepBut.trans q19_ hk (.inl rfl));have n1_:=Aside0.mk (hb);have n2_:=Aside0.mk (hi);clear HK;clear HB;clear HI0;have HK:=n0_;have HB:=n1_;have HI0:=n2_;clear n0_ n1_ n2_;(try clear hb);(try clear hk);(try clear hi)))
  go_ret
  exact ⟨q26_,q18_,q9_,q19_⟩
 rw [if_neg c10] at H
 have c10b0:(t316 == 2) = false:=beq_eq_false_iff_ne.mpr c10
 have c10b1:(t316 != 2) = true:=bne_iff_ne.mpr c10
 by_cases c33:t316 = 3
 ·rw [if_pos c33] at H
  have c33b0:(t316 == 3) = true:=beq_iff_eq.mpr c33
  have c33b1:(t316 != 3) = false:=bne_eq_false_iff_eq.mpr c33
  clear c33
  obtain ⟨y328,hy328⟩:∃ y_:List ByteArray,y_ = (([(⟨#[32]⟩:ByteArray),(⟨#[48]⟩:ByteArray),(⟨#[120]⟩:ByteArray)]:List ByteArray)):=⟨_,rfl⟩
  replace H:((spec_l1Rd_below.f s0_0 t317 3).bind fun bt331 => (if 0 ≤ bt331.1 then (if bt331.1 < (y328.length:Int) then (if a1.size + (rdOf ByteArray.empty y328 bt331.1).size ≤ 9223372036854775807 then (some (a1 ++ (rdOf ByteArray.empty y328 bt331.1),bt331.2)) else (none)) else (none)) else (none))) = some (r1,r2):=by first | (rw [hy328];exact H) | exact H
  have Ny328:=Aside0.mk hy328
  clear hy328
  replace H:=Option.bind_eq_some_iff.mp H
  obtain ⟨⟨t331,t332⟩,A340,H⟩:=H
  try dsimp -simprocs -eta only at H
  have A34:=Aside0.mk A340
  clear A340
  by_cases c35:0 ≤ t331
  rotate_left
  ·rw [if_neg c35] at H
   exact absurd H (by simp)
  rw [if_pos c35] at H
  have c35b0:=decide_eq_true c35
  clear c35
  by_cases c36:t331 < (y328.length:Int)
  rotate_left
  ·rw [if_neg c36] at H
   exact absurd H (by simp)
  rw [if_pos c36] at H
  have c36b0:=decide_eq_true c36
  clear c36
  by_cases c37:a1.size + (rdOf ByteArray.empty y328 t331).size ≤ 9223372036854775807
  rotate_left
  ·rw [if_neg c37] at H
   exact absurd H (by simp)
  rw [if_pos c37] at H
  have c37b0:=eq_true c37
  have c37b1:=decide_eq_true c37
  try have c37b2:(9223372036854775807 < a1.size + (rdOf ByteArray.empty y328 t331).size) = False:=eq_false (Nat.not_lt.2 c37)
  simp only [Option.some.injEq,Prod.mk.injEq] at H
  obtain ⟨rfl,rfl⟩:=H
  go_enter Tryz.func27,Tryz.ntmps27
  go_wp2_with (first | ((with_reducible refine gate_callee (f:=42) rfl ?_);refine goesL_ (some 7) rfl rfl Tryz.func42 (by kernel_rfl) rfl #[.pointer (some ⟨g,0,none⟩),.int .i64 6] rfl q22_ ?_;(with_reducible refine (spec_l1Rd_below.calls g s0_0 s0_1 6 t316 t317 w0 _ ?side1 ?side2 A3.out).mono ?_);(case side1 => exact q58_);(case side2 => exact q50_);rintro e w38 ⟨rfl,hi,hb,hk⟩;refine ⟨_,rfl,?_⟩;have n0_:=Aside0.mk (KeepBut.trans q19_ hk (.inl rfl));have n1_:=Aside0.mk (hb);have n2_:=Aside0.mk (hi);clear HK;clear HB;clear HI0;have HK:=n0_;have HB:=n1_;have HI0:=n2_;clear n0_ n1_ n2_;(try clear hb);(try clear hk);(try clear hi)) | ((with_reducible refine gate_dst (N:=43) rfl ?_);refine Kd.R_lit Kd.string _ 9 ?hg (N:=43) ?hd (xs:=([(⟨#[32]⟩:ByteArray),(⟨#[48]⟩:ByteArray),(⟨#[120]⟩:ByteArray)]:List ByteArray)) (inner:=[.string (⟨#[32]⟩:ByteArray),.string (⟨#[48]⟩:ByteArray),.string (⟨#[120]⟩:ByteArray)]) (ok:=fun _ => True) (okp:=fun _ => True) ?hr ?hp (fun _ hk => hk) trivial (Below.refl _ _) (Nat.le_refl _) (by simp) ?_;(case hd => rfl);(case hg => rfl);(case hr => exact q59_);(case hp => exact (Reps.one (show Kd.M Kd.string _ _ _ (⟨#[32]⟩:ByteArray) [.string (⟨#[32]⟩:ByteArray)] from rfl) (Reps.one (show Kd.M Kd.string _ _ _ (⟨#[48]⟩:ByteArray) [.string (⟨#[48]⟩:ByteArray)] from rfl) (Reps.one (show Kd.M Kd.string _ _ _ (⟨#[120]⟩:ByteArray) [.string (⟨#[120]⟩:ByteArray)] from rfl) (Reps.none _ _)))));intro v329 w39 ho40 hb hg_ hnew_;clear hg_ hnew_;(first | rw [← Ny328.out] at ho40 | (simp only [Int.reduceToNat] at ho40;rw [← Ny328.out] at ho40));have n0_:=Aside0.mk (Kd.R_lower ho40 (keep_size (w:=w) (g:=g) (row:=none) q19_));have n1_:=Aside0.mk (IsS61.below q18_ hb);have n2_:=Aside0.mk (KeepBut.trans q19_ (KeepBut.of_below hb g none) (.inl rfl));have n3_:=Aside0.mk (below_step q9_ hb);clear HI0;clear HK;clear HB;have HO330:=n0_;have HI0:=n1_;have HK:=n2_;have HB:=n3_;clear n0_ n1_ n2_ n3_;clear hb ho40) | ((with_reducible refine gate_callee (f:=42) rfl ?_);refine goesL_ (some 45) rfl rfl Tryz.func42 (by kernel_rfl) rfl #[.pointer (some ⟨g,0,none⟩),.int .i64 3] rfl q22_ ?_;(with_reducible refine (spec_l1Rd_below.calls g s0_0 t317 3 t331 t332 w0 _ ?side1 ?side2 A34.out).mono ?_);(case side1 => exact q58_);(case side2 => exact q50_);rintro e w41 ⟨rfl,hi,hb,hk⟩;refine ⟨_,rfl,?_⟩;have n0_:=Aside0.mk (Kd.R_mono (Kd.R_keep (IsS61.apart (show IsS61 w0 _ g s0_0 t317 from by repeat (first | (with_reducible first | exact HI0.out | apply IsS61.alloc | apply IsS61.drewN | apply IsS61.drew | apply IsS61.set_1) | exact HI0.out)) (by (with_reducible repeat (first | apply Kd.R_alloc | apply Kd.R_drewN | apply Kd.R_drew));exact HO330.out) (by decide)) hk (fun _ h => h.2)) (fun _ h => h.1));have n1_:=Aside0.mk (KeepBut.trans q19_ hk (.inl rfl));have n2_:=Aside0.mk (hb);have n3_:=Aside0.mk (hi);clear HO330;clear HK;clear HB;clear HI0;have HO330:=n0_;have HK:=n1_;have HB:=n2_;have HI0:=n3_;clear n0_ n1_ n2_ n3_;(try clear hb);(try clear hk);(try clear hi);obtain ⟨Ao42,co42,eo42⟩:=Kd.R_slice HO330.out;subst eo42;have p333:0 ≤ (t331:Int):=of_decide_eq_true q46_;have q333:t331 < (y328.length:Int):=of_decide_eq_true q46_;obtain ⟨ad333,e333,hx333_0⟩:=Kd.at_string (Kd.R_reads' HO330.out).2.2 t331 p333 q333;cases e333;replace p333:=eq_true p333;replace q333:=eq_true q333))
  go_ret
  exact ⟨q26_,q18_,q9_,q19_⟩
 rw [if_neg c33] at H
 have c33b0:(t316 == 3) = false:=beq_eq_false_iff_ne.mpr c33
 have c33b1:(t316 != 3) = true:=bne_iff_ne.mpr c33
 simp only [Option.some.injEq,Prod.mk.injEq] at H
 obtain ⟨rfl,rfl⟩:=H
 go_enter Tryz.func27,Tryz.ntmps27
 go_wp2_with (first | ((with_reducible refine gate_callee (f:=42) rfl ?_);refine goesL_ (some 7) rfl rfl Tryz.func42 (by kernel_rfl) rfl #[.pointer (some ⟨g,0,none⟩),.int .i64 6] rfl q22_ ?_;(with_reducible refine (spec_l1Rd_below.calls g s0_0 s0_1 6 t316 t317 w0 _ ?side1 ?side2 A3.out).mono ?_);(case side1 => exact q58_);(case side2 => exact q50_);rintro e w43 ⟨rfl,hi,hb,hk⟩;refine ⟨_,rfl,?_⟩;have n0_:=Aside0.mk (KeepBut.trans q19_ hk (.inl rfl));have n1_:=Aside0.mk (hb);have n2_:=Aside0.mk (hi);clear HK;clear HB;clear HI0;have HK:=n0_;have HB:=n1_;have HI0:=n2_;clear n0_ n1_ n2_;(try clear hb);(try clear hk);(try clear hi)))
 go_ret
 exact ⟨q26_,q18_,q9_,q19_⟩
def spec_DrawReadExpr.f (k:Nat) (l0:List Int):Option (ByteArray):=(spec_l1Open.f l0).bind fun bt334 => ((spec_l1Rd_expr.f k bt334.1 bt334.2).bind fun bt337 => ((spec_ExprText.f k bt337.1).bind fun t341 => ((spec_l1Rd_hurt.f bt334.1 bt337.2 t341).bind fun bt342 => (some bt342.1))))
theorem spec_DrawReadExpr.mono:∀ a0 k,LeO (spec_DrawReadExpr.f k a0) (spec_DrawReadExpr.f (k + 1) a0):=by
 intro a0 k
 unfold spec_DrawReadExpr.f
 repeat' first
   | (with_reducible first | exact spec_ExprText.mono _ _ | exact spec_l1Rd_expr.mono _ _ _ | exact LeO.refl _ | exact LeO.none _ | refine LeO.ite ?_ ?_ | refine LeO.bind ?_ (fun _ => ?_))
   | exact spec_ExprText.mono _ _
   | exact spec_l1Rd_expr.mono _ _ _
   | exact LeO.none _
   | refine LeO.ite ?_ ?_
   | refine LeO.bind ?_ (fun _ => ?_)
theorem spec_DrawReadExpr.calls (k:Nat) (A0:Option Addr) (c0:Nat) (l0:List Int) (r:ByteArray) (w:World) (hr0:Kd.C (Kd.int .u8) w A0 l0.length l0) (hc0:l0.length ≤ c0) (h:spec_DrawReadExpr.f k l0 = some r) :
  Calls Tryz.prog 12 #[.slice A0 l0.length c0] w fun e w' => e = .returned (.string r) ∧ Below w.heap.size w w':=by
 have HR0:=Aside0.mk hr0
 have HC0:=Aside0.mk hc0
 clear hr0 hc0
 have HB:=Aside0.mk (Below.refl w.heap.size w)
 have H:=h;unfold spec_DrawReadExpr.f at H
 clear h
 replace H:=Option.bind_eq_some_iff.mp H
 obtain ⟨⟨t334,t335⟩,A20,H⟩:=H
 try dsimp -simprocs -eta only at H
 have A2:=Aside0.mk A20
 clear A20
 replace H:=Option.bind_eq_some_iff.mp H
 obtain ⟨⟨t337,t340⟩,A30,H⟩:=H
 try dsimp -simprocs -eta only at H
 have A3:=Aside0.mk A30
 clear A30
 replace H:=Option.bind_eq_some_iff.mp H
 obtain ⟨t341,A40,H⟩:=H
 have A4:=Aside0.mk A40
 clear A40
 replace H:=Option.bind_eq_some_iff.mp H
 obtain ⟨⟨t342,t343⟩,A50,H⟩:=H
 replace H:(some t342) = some r:=H
 have A5:=Aside0.mk A50
 clear A50
 obtain rfl:=Option.some.inj H
 go_enter Tryz.func12,Tryz.ntmps12
 go_wp2_with (first | ((with_reducible refine gate_callee (f:=26) rfl ?_);refine goesL_ (some 5) rfl rfl Tryz.func26 (by kernel_rfl) rfl #[.slice A0 l0.length c0] rfl q22_ ?_;(with_reducible refine (spec_l1Open.calls _ _ l0 t334 t335 w _ ?side1 ?side2 ?side3 A2.out).mono ?_);(case side1 => repeat (first | (with_reducible first | exact HB.out | apply below_alloc | apply pw_below_drewN | apply below_drew1) | exact HB.out));(case side2 => exact HR0.out);(case side3 => exact HC0.out);rintro e w6 ⟨g336,rfl,hi,hb,hb2⟩;refine ⟨_,rfl,?_⟩;have n0_:=Aside0.mk (hb);have n1_:=Aside0.mk (hi);clear HB;have HB:=n0_;have HI336:=n1_;clear n0_ n1_;(try clear hb);(try clear hb2);(try clear hi)) | ((with_reducible refine gate_callee (f:=28) rfl ?_);refine goesL_ (some 8) rfl rfl Tryz.func28 (by kernel_rfl) rfl #[.pointer (some ⟨g336,0,none⟩)] rfl q22_ ?_;(with_reducible refine (spec_l1Rd_expr.calls k g336 t334 t335 t337 t340 w _ ?side1 ?side2 A3.out).mono ?_);(case side1 => exact q56_);(case side2 => exact q49_);rintro e w7 ⟨v338,rfl,ho0,hi,hb,hk⟩;refine ⟨_,rfl,?_⟩;have n0_:=Aside0.mk (Kd.R_lower ho0 (below_size q8_));have n1_:=Aside0.mk (hb);have n2_:=Aside0.mk (hi);clear HB;clear HI336;have HO339:=n0_;have HB:=n1_;have HI336:=n2_;clear n0_ n1_ n2_;(try clear hb);(try clear hk);(try clear hi);(try clear ho0);obtain ⟨Ao8,co8,eo8⟩:=Kd.R_slice HO339.out;subst eo8) | ((with_reducible refine gate_callee (f:=8) rfl ?_);refine goesL_ (some 9) rfl rfl Tryz.func8 (by kernel_rfl) rfl #[.slice Ao8 t337.length co8] rfl q22_ ?_;(with_reducible refine (spec_ExprText.calls k _ _ t337 t341 _ ?side1 ?side2 A4.out).mono ?_);(case side1 => repeat (first | exact (Kd.R_reads' HO339.out).2.2 | (with_reducible refine Kd.C_alloc ?_ _) | (with_reducible refine Kd.C_drewN ?_ _) | (with_reducible refine Kd.C_drew ?_)));(case side2 => exact (Kd.R_reads' HO339.out).2.1);rintro e w9 ⟨rfl,hb⟩;refine ⟨_,rfl,?_⟩;have n0_:=Aside0.mk (Kd.R_below (by (with_reducible repeat (first | apply Kd.R_alloc | apply Kd.R_drewN | apply Kd.R_drew));exact HO339.out) hb);have n1_:=Aside0.mk (IsS61.below (by repeat (first | (with_reducible first | exact HI336.out | apply IsS61.alloc | apply IsS61.drewN | apply IsS61.drew | apply IsS61.set_1) | exact HI336.out)) hb);have n2_:=Aside0.mk (below_step q8_ hb);clear HO339;clear HI336;clear HB;have HO339:=n0_;have HI336:=n1_;have HB:=n2_;clear n0_ n1_ n2_;(try clear hb)) | ((with_reducible refine gate_callee (f:=27) rfl ?_);refine goesL_ (some 10) rfl rfl Tryz.func27 (by kernel_rfl) rfl #[.pointer (some ⟨g336,0,none⟩),.string t341] rfl q22_ ?_;(with_reducible refine (spec_l1Rd_hurt.calls g336 t334 t340 t341 t342 t343 w _ ?side1 ?side2 A5.out).mono ?_);(case side1 => exact q56_);(case side2 => exact q49_);rintro e w10 ⟨rfl,hi,hb,hk⟩;refine ⟨_,rfl,?_⟩;have n0_:=Aside0.mk (Kd.R_mono (Kd.R_keep (IsS61.apart (show IsS61 w _ g336 t334 t340 from by repeat (first | (with_reducible first | exact HI336.out | apply IsS61.alloc | apply IsS61.drewN | apply IsS61.drew | apply IsS61.set_1) | exact HI336.out)) (by (with_reducible repeat (first | apply Kd.R_alloc | apply Kd.R_drewN | apply Kd.R_drew));exact HO339.out) (by decide)) hk (fun _ h => h.2)) (fun _ h => h.1));have n1_:=Aside0.mk (hb);have n2_:=Aside0.mk (hi);clear HO339;clear HB;clear HI336;have HO339:=n0_;have HB:=n1_;have HI336:=n2_;clear n0_ n1_ n2_;(try clear hb);(try clear hk);(try clear hi)))
 go_ret
 exact ⟨q26_,q8_⟩
def spec_l1Cut.l0:Nat → ByteArray → Int → Int → Option (ByteArray × ByteArray × Bool)
 | 0,_,_,_ => none
 | k + 1,x0,x1,x7 => if x7 < (x0.size:Int) then (if 0 ≤ x7 then (if (bt x0 x7) = x1 then (if x7 ≤ (x0.size:Int) then (if 0 ≤ (wrap64 (x7 + 1)) then (if (wrap64 (x7 + 1)) ≤ (x0.size:Int) then (some (x0.extract 0 (x7:Int).toNat,x0.extract ((wrap64 (x7 + 1)):Int).toNat x0.size,true)) else (none)) else (none)) else (none)) else (spec_l1Cut.l0 k x0 x1 (wrap64 (x7 + 1)))) else (none)) else (some (x0,(⟨#[]⟩:ByteArray),false))
def spec_l1Cut.f (k:Nat) (a0:ByteArray) (a1:Int):Option (ByteArray × ByteArray × Bool):=spec_l1Cut.l0 k a0 a1 0
theorem spec_l1Cut.mono_l:∀ k,(∀ y0 y1 y2,LeO (spec_l1Cut.l0 k y0 y1 y2) (spec_l1Cut.l0 (k + 1) y0 y1 y2))
 | 0 => fun _ _ _ r h => by simp [spec_l1Cut.l0] at h
 | k + 1 => by
  have ih0:=spec_l1Cut.mono_l k
  intro y0 y1 y2
  unfold spec_l1Cut.l0
  repeat' first
  | (with_reducible first | exact ih0 _ _ _ | exact LeO.refl _ | exact LeO.none _ | refine LeO.ite ?_ ?_ | refine LeO.bind ?_ (fun _ => ?_))
  | exact ih0 _ _ _
  | exact LeO.none _
  | refine LeO.ite ?_ ?_
  | refine LeO.bind ?_ (fun _ => ?_)
theorem spec_l1Cut.mono:∀ a0 a1 k,LeO (spec_l1Cut.f k a0 a1) (spec_l1Cut.f (k + 1) a0 a1):=by
 intro a0 a1 k
 have ih0:=spec_l1Cut.mono_l k
 unfold spec_l1Cut.f
 repeat' first
   | (with_reducible first | exact ih0 _ _ _ | exact LeO.refl _ | exact LeO.none _ | refine LeO.ite ?_ ?_ | refine LeO.bind ?_ (fun _ => ?_))
   | exact ih0 _ _ _
   | exact LeO.none _
   | refine LeO.ite ?_ ?_
   | refine LeO.bind ?_ (fun _ => ?_)
theorem spec_l1Cut.calls (k:Nat) (a0:ByteArray) (a1:Int) (r1:ByteArray) (r2:ByteArray) (r3:Bool) (w:World) (h:spec_l1Cut.f k a0 a1 = some (r1,r2,r3)) :
  Calls Tryz.prog 29 #[.string a0,.int .u8 a1] w fun e w' => e = .returned (.tuple #[.string r1,.string r2,.bool r3]) ∧ Drawn0 w w':=by
 have H:(spec_l1Cut.l0 k a0 a1 0) = some (r1,r2,r3):=h
 clear h
 have H':=Aside0.mk H
 clear H
 go_enter Tryz.func29,Tryz.ntmps29
 go_wp2
 repeat (go_quiet (fail);try go_wp2)
 go_loopg [7] k (fun kq v7 w' => ∃ (x7_1:Int),v7 = .int .i64 x7_1 ∧ Aside0 (spec_l1Cut.l0 kq a0 a1 x7_1 = some (r1,r2,r3)) ∧ Aside0 (kq ≤ k) ∧ Drawn0 w w')
 case atStart => exact ⟨(0),q31_,H',⟨Nat.le_refl _⟩,q44_⟩
 clear H'
 try clear c2
 try clear p2
 obtain ⟨x7_1,rfl,HA,HK1,⟨m1,rfl⟩⟩:=hrel
 cases gk with
 | zero => exact absurd HA.out (by simp [spec_l1Cut.l0])
 | succ k1 =>
  have H:=HA.out
  clear HA
  simp only [spec_l1Cut.l0] at H
  by_cases c3:x7_1 < (a0.size:Int)
  ·rw [if_pos c3] at H
   have c3b0:=decide_eq_true c3
   clear c3
   by_cases c4:0 ≤ x7_1
   rotate_left
   ·rw [if_neg c4] at H
    exact absurd H (by simp)
   rw [if_pos c4] at H
   have c4b0:=decide_eq_true c4
   clear c4
   by_cases c6:(bt a0 x7_1) = a1
   ·rw [if_pos c6] at H
    have c6b0:((bt a0 x7_1) == a1) = true:=beq_iff_eq.mpr c6
    have c6b1:((bt a0 x7_1) != a1) = false:=bne_eq_false_iff_eq.mpr c6
    clear c6
    have c7b0:=eq_true (of_decide_eq_true q46_:0 ≤ x7_1)
    by_cases c8:x7_1 ≤ (a0.size:Int)
    rotate_left
    ·rw [if_neg c8] at H
     exact absurd H (by simp)
    rw [if_pos c8] at H
    have c8b0:=eq_true c8
    have c8b1:=decide_eq_true c8
    clear c8
    obtain ⟨ji9,hji9⟩:∃ j_:Int,(wrap64 (x7_1 + 1)) = j_:=⟨_,rfl⟩
    (first | rewrite [hji9] at H | simp only [hji9] at H)
    have hji9w:(IntKind.i64.wrap (x7_1 + 1)) = ji9:=(i64_w _).trans hji9
    by_cases c10:0 ≤ (ji9)
    rotate_left
    ·rw [if_neg c10] at H
     exact absurd H (by simp)
    rw [if_pos c10] at H
    have c10b0:=eq_true c10
    have c10b1:=decide_eq_true c10
    clear c10
    by_cases c11:(ji9) ≤ (a0.size:Int)
    rotate_left
    ·rw [if_neg c11] at H
     exact absurd H (by simp)
    rw [if_pos c11] at H
    have c11b0:=eq_true c11
    have c11b1:=decide_eq_true c11
    clear c11
    simp only [Option.some.injEq,Prod.mk.injEq] at H
    obtain ⟨rfl,rfl,rfl⟩:=H
    have p5:0 ≤ (x7_1:Int):=of_decide_eq_true q46_
    have q5:x7_1 < (a0.size:Int):=of_decide_eq_true q46_
    have hx5:=bt_at a0 x7_1
    replace p5:=eq_true p5
    replace q5:=eq_true q5
    go_wp2
    repeat (go_quiet (fail);try go_wp2)
    go_ret3
    exact ⟨by first | rfl | (simp;done) | (simp only [← hji9] <;> (first | rfl | (simp;done))) | (simp [*];done) | (simp;decide +kernel) | (simp [wrap64];done) | (simp [bne];done),q44_⟩
   rw [if_neg c6] at H
   have c6b0:((bt a0 x7_1) == a1) = false:=beq_eq_false_iff_ne.mpr c6
   have c6b1:((bt a0 x7_1) != a1) = true:=bne_iff_ne.mpr c6
   have H':=Aside0.mk H
   clear H
   have p5:0 ≤ (x7_1:Int):=of_decide_eq_true q46_
   have q5:x7_1 < (a0.size:Int):=of_decide_eq_true q46_
   have hx5:=bt_at a0 x7_1
   replace p5:=eq_true p5
   replace q5:=eq_true q5
   go_wp2
   repeat (go_quiet (fail);try go_wp2)
   go_roundg k1
   case measure => have:=HK1.out;omega
   case rel => exact ⟨(wrap64 (x7_1 + 1)),q31_,H',⟨by have:=HK1.out;omega⟩,q44_⟩
  rw [if_neg c3] at H
  have c3b0:=decide_eq_false c3
  clear c3
  simp only [Option.some.injEq,Prod.mk.injEq] at H
  obtain ⟨rfl,rfl,rfl⟩:=H
  go_wp2
  repeat (go_quiet (fail);try go_wp2)
  go_ret3
  exact ⟨q31_,q44_⟩
def spec_l1Digit.j0:Nat → Int → Bool → Option (Int)
 | 0,_,_ => none
 | k + 1,x0,x3 => if x3 = true then (some ((x0 - 48) % 256)) else (if x0 ≥ 65 then (if x0 ≤ 70 then (some (((x0 - 65) % 256) + 10)) else (some 99)) else (some 99))
def spec_l1Digit.f (k:Nat) (a0:Int):Option (Int):=if a0 ≥ 48 then (spec_l1Digit.j0 k a0 (decide (a0 ≤ 57))) else (spec_l1Digit.j0 k a0 false)
theorem spec_l1Digit.mono_l:∀ k,(∀ y0 y1,LeO (spec_l1Digit.j0 k y0 y1) (spec_l1Digit.j0 (k + 1) y0 y1))
 | 0 => fun _ _ r h => by simp [spec_l1Digit.j0] at h
 | k + 1 => by
  have ih0:=spec_l1Digit.mono_l k
  intro y0 y1
  unfold spec_l1Digit.j0
  repeat' first
  | (with_reducible first | exact ih0 _ _ | exact LeO.refl _ | exact LeO.none _ | refine LeO.ite ?_ ?_ | refine LeO.bind ?_ (fun _ => ?_))
  | exact ih0 _ _
  | exact LeO.none _
  | refine LeO.ite ?_ ?_
  | refine LeO.bind ?_ (fun _ => ?_)
theorem spec_l1Digit.mono:∀ a0 k,LeO (spec_l1Digit.f k a0) (spec_l1Digit.f (k + 1) a0):=by
 intro a0 k
 have ih0:=spec_l1Digit.mono_l k
 unfold spec_l1Digit.f
 repeat' first
   | (with_reducible first | exact ih0 _ _ | exact LeO.refl _ | exact LeO.none _ | refine LeO.ite ?_ ?_ | refine LeO.bind ?_ (fun _ => ?_))
   | exact ih0 _ _
   | exact LeO.none _
   | refine LeO.ite ?_ ?_
   | refine LeO.bind ?_ (fun _ => ?_)
theorem spec_l1Digit.calls (k:Nat) (a0:Int) (r:Int) (w:World) (h:spec_l1Digit.f k a0 = some r) :
  Calls Tryz.prog 86 #[.int .u8 a0] w fun e w' => e = .returned (.int .i64 r) ∧ Drawn0 w w':=by
 have H:=h;unfold spec_l1Digit.f at H
 clear h
 have HC2:=Aside0.mk H
 clear H
 go_enter Tryz.func86,Tryz.ntmps86
 go_upto_region 1 with (fail)
 go_cut [3] (fun v3 wc => ∃ (kq:Nat) (x3_1:Bool),v3 = .bool x3_1 ∧ Aside0 (spec_l1Digit.j0 kq a0 x3_1 = some r) ∧ Aside0 (kq ≤ k) ∧ Drawn0 w wc)
 case first =>
  have H:=HC2.out
  clear HC2
  by_cases c3:a0 ≥ 48
  ·rw [if_pos c3] at H
   have c3b0:decide (48 ≤ a0) = true:=decide_eq_true c3
   clear c3
   (first | rw [c3b0] | (simp only [i64_w,i32_w];rw [c3b0]) | rw [c3b9] | skip)
   have H':=Aside0.mk H
   clear H
   go_wp2
   go_meet
   case rel => exact ⟨_,(decide (a0 ≤ 57)),q31_,H',⟨q48_⟩,q44_⟩
  rw [if_neg c3] at H
  have c3b0:decide (48 ≤ a0) = false:=decide_eq_false c3
  clear c3
  (first | rw [c3b0] | (simp only [i64_w,i32_w];rw [c3b0]) | rw [c3b9] | skip)
  have H':=Aside0.mk H
  clear H
  go_wp2
  go_meet
  case rel => exact ⟨_,(false),q31_,H',⟨q48_⟩,q44_⟩
 clear HC2
 try clear p2
 try clear c3
 try clear c3b0
 obtain ⟨kq,x3_1,rfl,HA,HJ1,⟨mc1,rfl⟩⟩:=hcut
 cases kq with
 | zero => exact absurd HA.out (by simp [spec_l1Digit.j0])
 | succ kj1 =>
  have H:=HA.out
  clear HA
  simp only [spec_l1Digit.j0] at H
  by_cases c4:x3_1 = true
  ·subst c4
   rewrite [if_pos rfl] at H
   obtain rfl:=Option.some.inj H
   go_wp2
   go_ret
   exact ⟨q31_,q44_⟩
  replace c4:=Bool.eq_false_iff.mpr c4
  subst c4
  rewrite [if_neg (show ¬ (false = true) by decide)] at H
  by_cases c5:a0 ≥ 65
  ·rw [if_pos c5] at H
   have c5b0:decide (65 ≤ a0) = true:=decide_eq_true c5
   clear c5
   by_cases c6:a0 ≤ 70
   ·rw [if_pos c6] at H
    have c6b0:=decide_eq_true c6
    clear c6
    obtain rfl:=Option.some.inj H
    go_wp2
    go_ret
    exact ⟨q31_,q44_⟩
   rw [if_neg c6] at H
   have c6b0:=decide_eq_false c6
   clear c6
   obtain rfl:=Option.some.inj H
   go_wp2
   go_ret
   exact ⟨q31_,q44_⟩
  rw [if_neg c5] at H
  have c5b0:decide (65 ≤ a0) = false:=decide_eq_false c5
  clear c5
  obtain rfl:=Option.some.inj H
  go_wp2
  go_ret
  exact ⟨q31_,q44_⟩
end Go.Proofs.YtabbdfchibjndaaGreatDoor.QFnExprTexts
