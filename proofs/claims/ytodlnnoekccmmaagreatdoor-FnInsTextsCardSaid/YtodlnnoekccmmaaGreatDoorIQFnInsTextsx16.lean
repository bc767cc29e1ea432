/- The machine's side of a law,written by a program of this session for this claim. -/
import Derived.Test.YtodlnnoekccmmaaGreatDoorIQq
import Derived.Test.YtodlnnoekccmmaaGreatDoorIQFnInsTextsx0
import Derived.Test.YtodlnnoekccmmaaGreatDoorIQFnInsTextsx7
import Derived.Test.YtodlnnoekccmmaaGreatDoorIQFnInsTextsx11
import Derived.Test.YtodlnnoekccmmaaGreatDoorIQFnInsTextsx15
namespace Go.Proofs.YtodlnnoekccmmaaGreatDoor.QFnInsTexts
open Go.Proofs.YtodlnnoekccmmaaGreatDoor.Qq
open Go.RowKit Go.Proofs.YtodlnnoekccmmaaGreatDoor.LibX Go.Proofs.YtodlnnoekccmmaaGreatDoor.LibE Go.Proofs.YtodlnnoekccmmaaGreatDoor.LibCB Go.Proofs.YtodlnnoekccmmaaGreatDoorW.PrintWords Go.Proofs.YtodlnnoekccmmaaGreatDoorW.PrintLast Go.Proofs.YtodlnnoekccmmaaGreatDoorW.PrintMore
attribute [local go_sem] max2_int min2_int max_two min_two max_three min_three max_four min_four   -- for this text's walks alone
set_option maxHeartbeats 8000000
set_option maxRecDepth 100000
set_option linter.unusedVariables false
set_option linter.unusedSimpArgs false
def spec_l1Rd_hurt.f (s0_0:List Int) (s0_1:Int) (a1:ByteArray):Option (ByteArray × Int):=(spec_l1Rd_below.f s0_0 s0_1 6).bind fun bt550 => (if bt550.1 = 1 then ((spec_l1Rd_below.f s0_0 bt550.2 (wrap64 ((a1.size:Int) + 1))).bind fun bt552 => (if 0 ≤ bt552.1 then (if bt552.1 ≤ (a1.size:Int) then (some (a1.extract 0 (bt552.1:Int).toNat,bt552.2)) else (none)) else (none))) else (if bt550.1 = 2 then (if (a1.size:Int) > 0 then ((spec_l1Rd_below.f s0_0 bt550.2 (a1.size:Int)).bind fun bt554 => (if 0 ≤ bt554.1 then (if bt554.1 ≤ (a1.size:Int) then ((some (([(⟨#[48]⟩:ByteArray),(⟨#[97]⟩:ByteArray),(⟨#[32]⟩:ByteArray),(⟨#[44]⟩:ByteArray),(⟨#[36]⟩:ByteArray),(⟨#[43]⟩:ByteArray)]:List ByteArray):List ByteArray)).bind fun y556 => ((spec_l1Rd_below.f s0_0 bt554.2 6).bind fun bt559 => (if 0 ≤ bt559.1 then (if bt559.1 < (y556.length:Int) then (if (a1.extract 0 (bt554.1:Int).toNat).size + (rdOf ByteArray.empty y556 bt559.1).size ≤ 9223372036854775807 then (if 0 ≤ (wrap64 (bt554.1 + 1)) then (if (wrap64 (bt554.1 + 1)) ≤ (a1.size:Int) then (if ((a1.extract 0 (bt554.1:Int).toNat) ++ (rdOf ByteArray.empty y556 bt559.1)).size + (a1.extract ((wrap64 (bt554.1 + 1)):Int).toNat a1.size).size ≤ 9223372036854775807 then (some (((a1.extract 0 (bt554.1:Int).toNat) ++ (rdOf ByteArray.empty y556 bt559.1)) ++ (a1.extract ((wrap64 (bt554.1 + 1)):Int).toNat a1.size),bt559.2)) else (none)) else (none)) else (none)) else (none)) else (none)) else (none)))) else (none)) else (none))) else (some (a1,bt550.2))) else (if bt550.1 = 3 then ((some (([(⟨#[32]⟩:ByteArray),(⟨#[48]⟩:ByteArray),(⟨#[120]⟩:ByteArray)]:List ByteArray):List ByteArray)).bind fun y562 => ((spec_l1Rd_below.f s0_0 bt550.2 3).bind fun bt565 => (if 0 ≤ bt565.1 then (if bt565.1 < (y562.length:Int) then (if a1.size + (rdOf ByteArray.empty y562 bt565.1).size ≤ 9223372036854775807 then (some (a1 ++ (rdOf ByteArray.empty y562 bt565.1),bt565.2)) else (none)) else (none)) else (none)))) else (some (a1,bt550.2)))))
def spec_l1Rd_hurt.T7:Bool × List (List Nat × List Nat):=(true,[([],[]),([],[]),([0,1],[0,1]),([],[]),([],[]),([4],[4]),([3,5],[3,5]),([6],[6]),([2,7],[2,7]),([],[]),([],[]),([10],[10]),([9,11],[9,11]),([8,12],[8,12]),([13,5,0,1,2,3,4,5,6,7,8,9,10,11,12,13],[13])])
def spec_l1Rd_hurt.B7:List Nat:=[0,0,3,0,0,16,56,120,255,0,0,1024,3584,8191,16383]
theorem spec_l1Rd_hurt.tab7:rtab .any (opsOf Tryz.f73 7) = spec_l1Rd_hurt.T7:=by kernel_rfl
theorem spec_l1Rd_hurt.bits7:waitsOk spec_l1Rd_hurt.T7.2 spec_l1Rd_hurt.B7 = true:=by kernel_rfl
theorem spec_l1Rd_hurt.calls (g:Nat) (s0_0:List Int) (s0_1:Int) (a1:ByteArray) (r1:ByteArray) (r2:Int) (w0 w:World) (hI:IsS96 w0 w g s0_0 s0_1) (hB:Below w0.heap.size w0 w) (h:spec_l1Rd_hurt.f s0_0 s0_1 a1 = some (r1,r2)) :
  Calls Tryz.prog 73 #[.pointer (some ⟨g,0,none⟩),.string a1] w fun e w' => e = .returned (.string r1) ∧ IsS96 w0 w' g s0_0 r2 ∧ Below w0.heap.size w0 w' ∧ KeepBut w w' g none:=by
 have HI0:=Aside0.mk hI
 have HK:=Aside0.mk (KeepBut.refl w g none)
 have HL:=Aside0.mk hB.size
 clear hI
 have HW0:=Aside0.mk hB.size
 have HB:=Aside0.mk hB
 clear hB
 have H:=h;unfold spec_l1Rd_hurt.f at H
 clear h
 replace H:=Option.bind_eq_some_iff.mp H
 obtain ⟨⟨t550,t551⟩,A30,H⟩:=H
 try dsimp -simprocs -eta only at H
 have A3:=Aside0.mk A30
 clear A30
 by_cases c4:t550 = 1
 ·rw [if_pos c4] at H
  have c4b0:(t550 == 1) = true:=beq_iff_eq.mpr c4
  have c4b1:(t550 != 1) = false:=bne_eq_false_iff_eq.mpr c4
  clear c4
  replace H:=Option.bind_eq_some_iff.mp H
  obtain ⟨⟨t552,t553⟩,A50,H⟩:=H
  try dsimp -simprocs -eta only at H
  have A5:=Aside0.mk A50
  clear A50
  by_cases c6:0 ≤ t552
  rotate_left
  ·rw [if_neg c6] at H
   exact absurd H (by simp)
  rw [if_pos c6] at H
  have c6b0:=eq_true c6
  have c6b1:=decide_eq_true c6
  clear c6
  by_cases c7:t552 ≤ (a1.size:Int)
  rotate_left
  ·rw [if_neg c7] at H
   exact absurd H (by simp)
  rw [if_pos c7] at H
  have c7b0:=eq_true c7
  have c7b1:=decide_eq_true c7
  clear c7
  simp only [Option.some.injEq,Prod.mk.injEq] at H
  obtain ⟨rfl,rfl⟩:=H
  go_enter Tryz.func73,Tryz.ntmps73
  go_wp2_with (first | ((with_reducible refine gate_callee (f:=44) rfl ?_);refine goesL_ (some 7) rfl rfl Tryz.func44 (by kernel_rfl) rfl #[.pointer (some ⟨g,0,none⟩),.int .i64 6] rfl q71_ ?_;(with_reducible refine (spec_l1Rd_below.calls g s0_0 s0_1 6 t550 t551 w0 _ ?side1 ?side2 A3.out).mono ?_);(case side1 => exact q138_);(case side2 => exact q134_);rintro e w8 ⟨rfl,hi,hb,hk⟩;refine ⟨_,rfl,?_⟩;have n0_:=Aside0.mk (KeepBut.trans q69_ hk (.inl rfl));have n1_:=Aside0.mk (hb);have n2_:=Aside0.mk (hi);clear HK;clear HB;clear HI0;have HK:=n0_;have HB:=n1_;have HI0:=n2_;clear n0_ n1_ n2_;(try clear hb);(try clear hk);(try clear hi)) | ((with_reducible refine gate_callee (f:=44) rfl ?_);refine goesL_ (some 15) rfl rfl Tryz.func44 (by kernel_rfl) rfl #[.pointer (some ⟨g,0,none⟩),.int .i64 (wrap64 ((a1.size:Int) + 1))] rfl (by (try simp only [List.map_toArray,List.map_cons,List.map_nil]);first | done | rfl | (simp only [List.length_drop,List.length_take];rfl) | (refine Eq.trans (b:=#[.pointer (some ⟨g,0,none⟩),.int .i64 (((a1.size:Int) + 1))]) rfl ?_;simp [wrap64] <;> omega)) ?_;(with_reducible refine (spec_l1Rd_below.calls g s0_0 t551 (wrap64 ((a1.size:Int) + 1)) t552 t553 w0 _ ?side1 ?side2 A5.out).mono ?_);(case side1 => exact q138_);(case side2 => exact q134_);rintro e w9 ⟨rfl,hi,hb,hk⟩;refine ⟨_,rfl,?_⟩;have n0_:=Aside0.mk (KeepBut.trans q69_ hk (.inl rfl));have n1_:=Aside0.mk (hb);have n2_:=Aside0.mk (hi);clear HK;clear HB;clear HI0;have HK:=n0_;have HB:=n1_;have HI0:=n2_;clear n0_ n1_ n2_;(try clear hb);(try clear hk);(try clear hi)))
  go_ret
  exact ⟨q74_,q68_,q54_,q69_⟩
 rw [if_neg c4] at H
 have c4b0:(t550 == 1) = false:=beq_eq_false_iff_ne.mpr c4
 have c4b1:(t550 != 1) = true:=bne_iff_ne.mpr c4
 by_cases c10:t550 = 2
 ·rw [if_pos c10] at H
  have c10b0:(t550 == 2) = true:=beq_iff_eq.mpr c10
  have c10b1:(t550 != 2) = false:=bne_eq_false_iff_eq.mpr c10
  clear c10
  by_cases c11:(a1.size:Int) > 0
  ·rw [if_pos c11] at H
   have c11b0:decide (0 < (a1.size:Int)) = true:=decide_eq_true c11
   have c11b1:decide (0 < a1.size) = true:=decide_eq_true (by omega)
   clear c11
   replace H:=Option.bind_eq_some_iff.mp H
   obtain ⟨⟨t554,t555⟩,A120,H⟩:=H
   try dsimp -simprocs -eta only at H
   have A12:=Aside0.mk A120
   clear A120
   by_cases c13:0 ≤ t554
   rotate_left
   ·rw [if_neg c13] at H
    exact absurd H (by simp)
   rw [if_pos c13] at H
   have c13b0:=eq_true c13
   have c13b1:=decide_eq_true c13
   clear c13
   by_cases c14:t554 ≤ (a1.size:Int)
   rotate_left
   ·rw [if_neg c14] at H
    exact absurd H (by simp)
   rw [if_pos c14] at H
   have c14b0:=eq_true c14
   have c14b1:=decide_eq_true c14
   clear c14
   obtain ⟨y556,hy556⟩:∃ y_:List ByteArray,y_ = (([(⟨#[48]⟩:ByteArray),(⟨#[97]⟩:ByteArray),(⟨#[32]⟩:ByteArray),(⟨#[44]⟩:ByteArray),(⟨#[36]⟩:ByteArray),(⟨#[43]⟩:ByteArray)]:List ByteArray)):=⟨_,rfl⟩
   replace H:((spec_l1Rd_below.f s0_0 t555 6).bind fun bt559 => (if 0 ≤ bt559.1 then (if bt559.1 < (y556.length:Int) then (if (a1.extract 0 (t554:Int).toNat).size + (rdOf ByteArray.empty y556 bt559.1).size ≤ 9223372036854775807 then (if 0 ≤ (wrap64 (t554 + 1)) then (if (wrap64 (t554 + 1)) ≤ (a1.size:Int) then (if ((a1.extract 0 (t554:Int).toNat) ++ (rdOf ByteArray.empty y556 bt559.1)).size + (a1.extract ((wrap64 (t554 + 1)):Int).toNat a1.size).size ≤ 9223372036854775807 then (some (((a1.extract 0 (t554:Int).toNat) ++ (rdOf ByteArray.empty y556 bt559.1)) ++ (a1.extract ((wrap64 (t554 + 1)):Int).toNat a1.size),bt559.2)) else (none)) else (none)) else (none)) else (none)) else (none)) else (none))) = some (r1,r2):=by first | (rw [hy556];exact H) | exact H
   have Ny556:=Aside0.mk hy556
   clear hy556
   replace H:=Option.bind_eq_some_iff.mp H
   obtain ⟨⟨t559,t560⟩,A150,H⟩:=H
   try dsimp -simprocs -eta only at H
   have A15:=Aside0.mk A150
   clear A150
   by_cases c16:0 ≤ t559
   rotate_left
   ·rw [if_neg c16] at H
    exact absurd H (by simp)
   rw [if_pos c16] at H
   have c16b0:=decide_eq_true c16
   clear c16
   by_cases c17:t559 < (y556.length:Int)
   rotate_left
   ·rw [if_neg c17] at H
    exact absurd H (by simp)
   rw [if_pos c17] at H
   have c17b0:=decide_eq_true c17
   clear c17
   by_cases c18:(a1.extract 0 (t554:Int).toNat).size + (rdOf ByteArray.empty y556 t559).size ≤ 9223372036854775807
   rotate_left
   ·rw [if_neg c18] at H
    exact absurd H (by simp)
   rw [if_pos c18] at H
   have c18b0:=eq_true c18
   (try (have c18b0e:=c18b0;simp only [ByteArray.size_append,ByteArray.size_extract,Nat.min_self,Nat.sub_zero] at c18b0e))
   (try (have c18b0f:=c18b0e;simp only [show min (t554:Int).toNat a1.size = (t554:Int).toNat from Nat.min_eq_left (by have q_:t554 ≤ (a1.size:Int):=of_decide_eq_true q109_;omega)] at c18b0f))
   have c18b1:=decide_eq_true c18
   (try (have c18b1e:=c18b1;simp only [ByteArray.size_append,ByteArray.size_extract,Nat.min_self,Nat.sub_zero] at c18b1e))
   (try (have c18b1f:=c18b1e;simp only [show min (t554:Int).toNat a1.size = (t554:Int).toNat from Nat.min_eq_left (by have q_:t554 ≤ (a1.size:Int):=of_decide_eq_true q109_;omega)] at c18b1f))
   try have c18b2:(9223372036854775807 < (a1.extract 0 (t554:Int).toNat).size + (rdOf ByteArray.empty y556 t559).size) = False:=eq_false (Nat.not_lt.2 c18)
   (try (have c18b2e:=c18b2;simp only [ByteArray.size_append,ByteArray.size_extract,Nat.min_self,Nat.sub_zero] at c18b2e))
   (try (first | (have c18b2p:=eq_true (of_decide_eq_true c18b2e)) | (have c18b2p:=eq_false (of_decide_eq_false c18b2e))))
   (try (have c18b2f:=c18b2e;simp only [show min (t554:Int).toNat a1.size = (t554:Int).toNat from Nat.min_eq_left (by have q_:t554 ≤ (a1.size:Int):=of_decide_eq_true q109_;omega)] at c18b2f))
   obtain ⟨ji19,hji19⟩:∃ j_:Int,(wrap64 (t554 + 1)) = j_:=⟨_,rfl⟩
   (first | rewrite [hji19] at H | simp only [hji19] at H)
   (try rw [hji19] at A3)
   (try rw [hji19] at A12)
   (try rw [hji19] at A15)
   have hji19w:(IntKind.i64.wrap (t554 + 1)) = ji19:=(i64_w _).trans hji19
   by_cases c20:0 ≤ (ji19)
   rotate_left
   ·rw [if_neg c20] at H
    exact absurd H (by simp)
   rw [if_pos c20] at H
   have c20b0:=eq_true c20
   have c20b1:=decide_eq_true c20
   clear c20
   by_cases c21:(ji19) ≤ (a1.size:Int)
   rotate_left
   ·rw [if_neg c21] at H
    exact absurd H (by simp)
   rw [if_pos c21] at H
   have c21b0:=eq_true c21
   have c21b1:=decide_eq_true c21
   clear c21
   by_cases c22:((a1.extract 0 (t554:Int).toNat) ++ (rdOf ByteArray.empty y556 t559)).size + (a1.extract ((ji19):Int).toNat a1.size).size ≤ 9223372036854775807
   rotate_left
   ·rw [if_neg c22] at H
    exact absurd H (by simp)
   rw [if_pos c22] at H
   have c22b0:=eq_true c22
   (try (have c22b0e:=c22b0;simp only [ByteArray.size_append,ByteArray.size_extract,Nat.min_self,Nat.sub_zero] at c22b0e))
   (try (have c22b0f:=c22b0e;simp only [show min (t554:Int).toNat a1.size = (t554:Int).toNat from Nat.min_eq_left (by have q_:t554 ≤ (a1.size:Int):=of_decide_eq_true q109_;omega)] at c22b0f))
   have c22b1:=decide_eq_true c22
   (try (have c22b1e:=c22b1;simp only [ByteArray.size_append,ByteArray.size_extract,Nat.min_self,Nat.sub_zero] at c22b1e))
   (try (have c22b1f:=c22b1e;simp only [show min (t554:Int).toNat a1.size = (t554:Int).toNat from Nat.min_eq_left (by have q_:t554 ≤ (a1.size:Int):=of_decide_eq_true q109_;omega)] at c22b1f))
   try have c22b2:(9223372036854775807 < ((a1.extract 0 (t554:Int).toNat) ++ (rdOf ByteArray.empty y556 t559)).size + (a1.extract ((ji19):Int).toNat a1.size).size) = False:=eq_false (Nat.not_lt.2 c22)
   (try (have c22b2e:=c22b2;simp only [ByteArray.size_append,ByteArray.size_extract,Nat.min_self,Nat.sub_zero] at c22b2e))
   (try (first | (have c22b2p:=eq_true (of_decide_eq_true c22b2e)) | (have c22b2p:=eq_false (of_decide_eq_false c22b2e))))
   (try (have c22b2f:=c22b2e;simp only [show min (t554:Int).toNat a1.size = (t554:Int).toNat from Nat.min_eq_left (by have q_:t554 ≤ (a1.size:Int):=of_decide_eq_true q109_;omega)] at c22b2f))
   simp only [Option.some.injEq,Prod.mk.injEq] at H
   obtain ⟨rfl,rfl⟩:=H
   go_enter Tryz.func73,Tryz.ntmps73
   try go_wp2_with (first | ((with_reducible refine gate_callee (f:=44) rfl ?_);refine goesL_ (some 7) rfl rfl Tryz.func44 (by kernel_rfl) rfl #[.pointer (some ⟨g,0,none⟩),.int .i64 6] rfl q71_ ?_;(with_reducible refine (spec_l1Rd_below.calls g s0_0 s0_1 6 t550 t551 w0 _ ?side1 ?side2 A3.out).mono ?_);(case side1 => exact q138_);(case side2 => exact q134_);rintro e w23 ⟨rfl,hi,hb,hk⟩;refine ⟨_,rfl,?_⟩;have n0_:=Aside0.mk (KeepBut.trans q69_ hk (.inl rfl));have n1_:=Aside0.mk (hb);have n2_:=Aside0.mk (hi);clear HK;clear HB;clear HI0;have HK:=n0_;have HB:=n1_;have HI0:=n2_;clear n0_ n1_ n2_;(try clear hb);(try clear hk);(try clear hi)) | ((with_reducible refine gate_callee (f:=44) rfl ?_);refine goesL_ (some 25) rfl rfl Tryz.func44 (by kernel_rfl) rfl #[.pointer (some ⟨g,0,none⟩),.int .i64 (a1.size:Int)] rfl q71_ ?_;(with_reducible refine (spec_l1Rd_below.calls g s0_0 t551 (a1.size:Int) t554 t555 w0 _ ?side1 ?side2 A12.out).mono ?_);(case side1 => exact q138_);(case side2 => exact q134_);rintro e w24 ⟨rfl,hi,hb,hk⟩;refine ⟨_,rfl,?_⟩;have n0_:=Aside0.mk (KeepBut.trans q69_ hk (.inl rfl));have n1_:=Aside0.mk (hb);have n2_:=Aside0.mk (hi);clear HK;clear HB;clear HI0;have HK:=n0_;have HB:=n1_;have HI0:=n2_;clear n0_ n1_ n2_;(try clear hb);(try clear hk);(try clear hi)))
   have pi561:(0 ≤ (t559:Int)) = True:=eq_true (of_decide_eq_true q109_)
   have qi561:(t559 < (y556.length:Int)) = True:=eq_true (of_decide_eq_true q109_)
   have n0_:=Aside0.mk (IsS96.drew HI0.out)
   have n1_:=Aside0.mk (keep_drew HK.out)
   have n2_:=Aside0.mk (below_drew1 HB.out)
   clear HI0
   clear HK
   clear HB
   have HI0:=n0_
   have HK:=n1_
   have HB:=n2_
   clear n0_ n1_ n2_
   refine start_ (n:=15) (S:=fun w' => True) (ds:=[]) #[false,false,false,false,false,false,false,false,false,false,false,false,false,false,false] (by kernel_rfl) rfl rfl trivial (fun hHeld => ?_);refine with_tabW spec_l1Rd_hurt.tab7 spec_l1Rd_hurt.bits7 (fun HT_ HW_ => ?_)
   generalize w24.drew = w25 at HI0 HK HB hHeld ⊢
   refine pure_ (i:=0) (N:=some 26) (v:=?_) (a':=?_) #[true,false,false,false,false,false,false,false,false,false,false,false,false,false,false] rfl rfl (any_of HT_.out (by kernel_rfl)) (fun _ _ _ h => h) (Or.inl ⟨by rfl,?_⟩) ?_ ?_
   rotate_left
   ·intro w'
    go_simp
    with_reducible rfl
   rotate_left
   ·simp only [Act.put,List.setIfInBounds_toArray,List.set_cons_zero,List.set_cons_succ,i64_w,i32_w]
    rfl
   refine pure_ (i:=1) (N:=some 27) (v:=?_) (a':=?_) #[true,true,false,false,false,false,false,false,false,false,false,false,false,false,false] rfl rfl (any_of HT_.out (by kernel_rfl)) (fun _ _ _ h => h) (Or.inl ⟨by rfl,?_⟩) ?_ ?_
   rotate_left
   ·intro w'
    go_simp
    with_reducible rfl
   rotate_left
   ·simp only [Act.put,List.setIfInBounds_toArray,List.set_cons_zero,List.set_cons_succ,i64_w,i32_w]
    rfl
   refine pure_ (i:=4) (N:=some 30) (v:=?_) (a':=?_) #[true,true,false,false,true,false,false,false,false,false,false,false,false,false,false] rfl rfl (any_of HT_.out (by kernel_rfl)) (fun _ _ _ h => h) (Or.inl ⟨by rfl,?_⟩) ?_ ?_
   rotate_left
   ·intro w'
    go_simp
    with_reducible rfl
   rotate_left
   ·simp only [Act.put,List.setIfInBounds_toArray,List.set_cons_zero,List.set_cons_succ,i64_w,i32_w]
    rfl
   refine pure_ (i:=9) (N:=some 35) (v:=?_) (a':=?_) #[true,true,false,false,true,false,false,false,false,true,false,false,false,false,false] rfl rfl (any_of HT_.out (by kernel_rfl)) (fun _ _ _ h => h) (Or.inl ⟨by rfl,?_⟩) ?_ ?_
   rotate_left
   ·intro w'
    go_simp
    with_reducible rfl
   rotate_left
   ·simp only [Act.put,List.setIfInBounds_toArray,List.set_cons_zero,List.set_cons_succ,i64_w,i32_w]
    rfl
   refine pure_ (i:=10) (N:=some 36) (v:=?_) (a':=?_) #[true,true,false,false,true,false,false,false,false,true,true,false,false,false,false] rfl rfl (any_of HT_.out (by kernel_rfl)) (fun _ _ _ h => h) (Or.inl ⟨by rfl,?_⟩) ?_ ?_
   rotate_left
   ·intro w'
    go_simp
    with_reducible rfl
   rotate_left
   ·simp only [Act.put,List.setIfInBounds_toArray,List.set_cons_zero,List.set_cons_succ,i64_w,i32_w]
    rfl
   refine inv_at [2,3,5,6,7,8,11,12,13,14] (fun a0_ b a w' => ∃ (v557:Value) (adz_v557:Addr) (m6_:Value),a = putSel a0_ b [(2,28,.string (a1.extract 0 (t554:Int).toNat)),(3,29,v557),(5,31,.int .i64 t559),(6,32,m6_),(7,33,.string (rdOf ByteArray.empty y556 t559)),(8,34,.string ((a1.extract 0 (t554:Int).toNat) ++ (rdOf ByteArray.empty y556 t559))),(11,37,.int .i64 ji19),(12,38,.string (a1.extract ((ji19):Int).toNat a1.size)),(13,39,.string (((a1.extract 0 (t554:Int).toNat) ++ (rdOf ByteArray.empty y556 t559)) ++ (a1.extract ((ji19):Int).toNat a1.size))),(14,4,.string (((a1.extract 0 (t554:Int).toNat) ++ (rdOf ByteArray.empty y556 t559)) ++ (a1.extract ((ji19):Int).toNat a1.size)))] ∧ (b 5 = false → IsS96 w0 w' g s0_0 t555) ∧ (KeepBut w w' g none) ∧ (Below w0.heap.size w0 w') ∧ (b 3 = true → Kd.R Kd.string 9 w' w.heap.size (fun _ => True) v557 y556) ∧ (b 3 = true → ∃ c_,(v557:Value) = .slice (some adz_v557) y556.length c_) ∧ (b 5 = true → IsS96 w0 w' g s0_0 t560) ∧ (b 6 = true → (m6_:Value) = .pointer (some (adz_v557.add (t559).toNat)))) HT_.out HW_.out (by kernel_rfl) (by kernel_rfl) ?_ ?_ ?_
   ·exact ⟨.bool false,⟨0,0,none⟩,.bool false,q110_,fun _ => HI0.out,HK.out,HB.out,fun h_ => absurd h_ (by decide),fun h_ => absurd h_ (by decide),fun h_ => absurd h_ (by decide),fun h_ => absurd h_ (by decide)⟩
   ·skip
    clear HB HI0 HK
    refine steps_cons ?_ ?_
    ·rintro b a w' ⟨v557,adz_v557,m6_,ha,Q_HI0,Q_HK,Q_HB,Q_HO558,Q_HA_HO558,Q_HI0_e5,Q_X6_⟩ hb_ hon hoff
     refine ⟨_,rfl,fun K hK => ?_⟩
     have e26:a.tmps[26]? = some (.string a1):=by rw [ha];exact (putSel_off rfl).trans rfl
     have e27:a.tmps[27]? = some (.int .i64 t554):=by rw [ha];exact (putSel_off rfl).trans rfl
     replace ha:=Aside0.mk ha
     have HK:=Aside0.mk Q_HK
     have HB:=Aside0.mk Q_HB
     refine value_ (w1:=w') (v:=.string (a1.extract 0 (t554:Int).toNat)) (by rfl) rfl ?_ ?_
     ·go_simp
      (try simp only [i64_w])
      try rfl
     refine hK.out _ _ ⟨v557,adz_v557,m6_,q111_,Q_HI0,Q_HK,Q_HB,Q_HO558,Q_HA_HO558,Q_HI0_e5,Q_X6_⟩
    refine steps_cons ?_ ?_
    ·rintro b a w' ⟨v557,adz_v557,m6_,ha,Q_HI0,Q_HK,Q_HB,Q_HO558,Q_HA_HO558,Q_HI0_e5,Q_X6_⟩ hb_ hon hoff
     refine ⟨_,rfl,fun K hK => ?_⟩
     replace ha:=Aside0.mk ha
     have HK:=Aside0.mk Q_HK
     have HB:=Aside0.mk Q_HB
     refine Kd.R_lit_step Kd.string _ 9 ?hg (N:=29) ?hd (xs:=([(⟨#[48]⟩:ByteArray),(⟨#[97]⟩:ByteArray),(⟨#[32]⟩:ByteArray),(⟨#[44]⟩:ByteArray),(⟨#[36]⟩:ByteArray),(⟨#[43]⟩:ByteArray)]:List ByteArray)) (inner:=[.string (⟨#[48]⟩:ByteArray),.string (⟨#[97]⟩:ByteArray),.string (⟨#[32]⟩:ByteArray),.string (⟨#[44]⟩:ByteArray),.string (⟨#[36]⟩:ByteArray),.string (⟨#[43]⟩:ByteArray)]) (ok:=fun _ => True) (okp:=fun _ => True) ?hr ?hp (fun _ hk => hk) trivial (Below.refl _ _) (Nat.le_refl _) (by simp) ?_;(case hd => rfl);(case hg => rfl);(case hr => exact q139_);(case hp => exact (Reps.one (show Kd.M Kd.string _ _ _ (⟨#[48]⟩:ByteArray) [.string (⟨#[48]⟩:ByteArray)] from rfl) (Reps.one (show Kd.M Kd.string _ _ _ (⟨#[97]⟩:ByteArray) [.string (⟨#[97]⟩:ByteArray)] from rfl) (Reps.one (show Kd.M Kd.string _ _ _ (⟨#[32]⟩:ByteArray) [.string (⟨#[32]⟩:ByteArray)] from rfl) (Reps.one (show Kd.M Kd.string _ _ _ (⟨#[44]⟩:ByteArray) [.string (⟨#[44]⟩:ByteArray)] from rfl) (Reps.one (show Kd.M Kd.string _ _ _ (⟨#[36]⟩:ByteArray) [.string (⟨#[36]⟩:ByteArray)] from rfl) (Reps.one (show Kd.M Kd.string _ _ _ (⟨#[43]⟩:ByteArray) [.string (⟨#[43]⟩:ByteArray)] from rfl) (Reps.none _ _))))))))
     intro v557 w26 ho27 hb hg_ hnew_
     clear hg_ hnew_
     (first | rw [← Ny556.out] at ho27 | (simp only [Int.reduceToNat] at ho27;rw [← Ny556.out] at ho27))
     have n0_:=Aside0.mk (Kd.R_lower ho27 (keep_size (w:=w) (g:=g) (row:=none) q69_))
     have n2_:=Aside0.mk (KeepBut.trans q69_ (KeepBut.of_below hb g none) (.inl rfl))
     have n3_:=Aside0.mk (below_step q72_ hb)
     have z_HI0:=fun (h0_:b 5 = false) => (show IsS96 w0 w26 g s0_0 t555 from by first | exact (IsS96.below (by repeat (first | (with_reducible first | exact (Q_HI0 h0_) | apply IsS96.alloc | apply IsS96.drewN | apply IsS96.drew | apply IsS96.set_1) | exact (Q_HI0 h0_))) hb))
     have z_HI0_e5:=fun (h0_:b 5 = true) => (show IsS96 w0 w26 g s0_0 t560 from by first | exact (IsS96.below (by repeat (first | (with_reducible first | exact (Q_HI0_e5 h0_) | apply IsS96.alloc | apply IsS96.drewN | apply IsS96.drew | apply IsS96.set_1) | exact (Q_HI0_e5 h0_))) hb))
     clear HK
     clear HB
     have HO558:=n0_
     have HK:=n2_
     have HB:=n3_
     clear n0_ n2_ n3_
     clear hb ho27
     obtain ⟨Ao28,co28,eo28⟩:=Kd.R_slice HO558.out
     subst eo28
     obtain ⟨ado28,fo28,_⟩:=Kd.at_string (Kd.R_reads' HO558.out).2.2 0 (by decide) (by rw [Ny556.out];simp)
     cases fo28
     refine hK.out _ _ ⟨.slice (some ado28) y556.length co28,ado28,m6_,q112_,z_HI0,q69_,q72_,fun _ => (by (with_reducible repeat (first | apply Kd.R_alloc | apply Kd.R_drewN | apply Kd.R_drew));exact HO558.out),fun _ => ⟨_,rfl⟩,z_HI0_e5,fun h0_ => absurd ((hoff 6 (by kernel_rfl)).symm.trans h0_) (by decide)⟩
    refine steps_cons ?_ ?_
    ·rintro b a w' ⟨v557,adz_v557,m6_,ha,Q_HI0,Q_HK,Q_HB,Q_HO558,Q_HA_HO558,Q_HI0_e5,Q_X6_⟩ hb_ hon hoff
     refine ⟨_,rfl,fun K hK => ?_⟩
     have e30:a.tmps[30]? = some (.pointer (some ⟨g,0,none⟩)):=by rw [ha];exact (putSel_off rfl).trans rfl
     replace ha:=Aside0.mk ha
     have HI0:=Aside0.mk (Q_HI0 hb_)
     have HK:=Aside0.mk Q_HK
     have HB:=Aside0.mk Q_HB
     refine goes_ Tryz.func44 (by kernel_rfl) rfl #[.pointer (some ⟨g,0,none⟩),.int .i64 6] (by rfl) rfl rfl (by first | (simp only [List.map_toArray,List.map_cons,List.map_nil,Act.eval,Array.getD_eq_getD_getElem?,Option.getD_some,e30];done) | (simp only [List.map_toArray,List.map_cons,List.map_nil,Act.eval,Array.getD_eq_getD_getElem?,Option.getD_some,e30];rfl)) ?_
     with_reducible refine (spec_l1Rd_below.calls g s0_0 t555 6 t559 t560 w0 _ ?side1 ?side2 A15.out).mono ?_
     (case side1 => exact q138_)
     (case side2 => exact q134_)
     rintro e w26 ⟨rfl,hi,hb,hk⟩
     refine ⟨_,rfl,?_⟩
     have n0_:=Aside0.mk (KeepBut.trans q69_ hk (.inl rfl))
     have n1_:=Aside0.mk (hb)
     have n2_:=Aside0.mk (hi)
     have z_HO558:=fun (h0_:b 3 = true) => (show Kd.R Kd.string 9 w26 w.heap.size (fun _ => True) v557 y556 from by first | exact (Kd.R_mono (Kd.R_keep (IsS96.apart (show IsS96 w0 _ g s0_0 t555 from by repeat (first | (with_reducible first | exact HI0.out | apply IsS96.alloc | apply IsS96.drewN | apply IsS96.drew | apply IsS96.set_1) | exact HI0.out)) (by (with_reducible repeat (first | apply Kd.R_alloc | apply Kd.R_drewN | apply Kd.R_drew));exact (Q_HO558 h0_)) (by decide)) hk (fun _ h => h.2)) (fun _ h => h.1)) | exact Kd.R_mono (Kd.R_mono (Kd.R_keep (IsS96.apart (show IsS96 w0 _ g s0_0 t555 from by repeat (first | (with_reducible first | exact HI0.out | apply IsS96.alloc | apply IsS96.drewN | apply IsS96.drew | apply IsS96.set_1) | exact HI0.out)) (by (with_reducible repeat (first | apply Kd.R_alloc | apply Kd.R_drewN | apply Kd.R_drew));exact (Q_HO558 h0_)) (by decide)) hk (fun _ h => h.2)) (fun _ h => h.1)) (fun _ h_ => by first | trivial | exact h_ | exact h_.1))
     clear HK
     clear HB
     clear HI0
     have HK:=n0_
     have HB:=n1_
     have HI0:=n2_
     clear n0_ n1_ n2_
     (try clear hb)
     (try clear hb2)
     (try clear hk)
     (try clear hi)
     refine hK.out _ _ ⟨v557,adz_v557,m6_,q113_,fun h0_ => absurd ((up_self b 5).symm.trans h0_) (by decide),q69_,q54_,z_HO558,Q_HA_HO558,fun _ => q68_,fun h0_ => absurd ((hoff 6 (by kernel_rfl)).symm.trans h0_) (by decide)⟩
    refine steps_cons ?_ ?_
    ·rintro b a w' ⟨v557,adz_v557,m6_,ha,Q_HI0,Q_HK,Q_HB,Q_HO558,Q_HA_HO558,Q_HI0_e5,Q_X6_⟩ hb_ hon hoff
     refine ⟨_,rfl,fun K hK => ?_⟩
     have e29:a.tmps[29]? = some (v557):=by rw [ha];exact putSel_on (e:=(3,29,v557)) 1 rfl rfl (hon 3 (by kernel_rfl)) rfl
     have e31:a.tmps[31]? = some (.int .i64 t559):=by rw [ha];exact putSel_on (e:=(5,31,.int .i64 t559)) 2 rfl rfl (hon 5 (by kernel_rfl)) rfl
     replace ha:=Aside0.mk ha
     have HK:=Aside0.mk Q_HK
     have HB:=Aside0.mk Q_HB
     have HO558:=Aside0.mk (Q_HO558 (hon 3 (by kernel_rfl)))
     have HA_HO558:=Aside0.mk (Q_HA_HO558 (hon 3 (by kernel_rfl)))
     have HI0:=Aside0.mk (Q_HI0_e5 (hon 5 (by kernel_rfl)))
     obtain ⟨c_,hv_⟩:=HA_HO558.out
     rw [hv_] at e29
     refine value_ (w1:=w') (v:=.pointer (some (adz_v557.add (t559).toNat))) (by rfl) rfl ?_ ?_
     ·go_simp
      (try simp only [i64_w])
      try rfl
     refine hK.out _ _ ⟨v557,adz_v557,(.pointer (some (adz_v557.add (t559).toNat))),q114_,fun h0_ => absurd ((hon 5 (by kernel_rfl)).symm.trans h0_) (by decide),Q_HK,Q_HB,Q_HO558,Q_HA_HO558,Q_HI0_e5,fun _ => rfl⟩
    refine steps_cons ?_ ?_
    ·rintro b a w' ⟨v557,adz_v557,m6_,ha,Q_HI0,Q_HK,Q_HB,Q_HO558,Q_HA_HO558,Q_HI0_e5,Q_X6_⟩ hb_ hon hoff
     refine ⟨_,rfl,fun K hK => ?_⟩
     have e32:a.tmps[32]? = some (m6_):=by rw [ha];exact putSel_on (e:=(6,32,m6_)) 3 rfl rfl (hon 6 (by kernel_rfl)) rfl
     rw [Q_X6_ (hon 6 (by kernel_rfl))] at e32
     replace ha:=Aside0.mk ha
     have HK:=Aside0.mk Q_HK
     have HB:=Aside0.mk Q_HB
     have HO558:=Aside0.mk (Q_HO558 (hon 3 (by kernel_rfl)))
     have HA_HO558:=Aside0.mk (Q_HA_HO558 (hon 3 (by kernel_rfl)))
     have HI0:=Aside0.mk (Q_HI0_e5 (hon 5 (by kernel_rfl)))
     obtain ⟨c_,hv_⟩:=HA_HO558.out
     have hF_:=HO558.out
     rw [hv_] at hF_
     obtain ⟨ad_,ea_,hx_⟩:=Kd.at_string (Kd.R_reads' hF_).2.2 t559 (of_eq_true pi561) (of_eq_true qi561)
     cases ea_
     refine value_ (w1:=w') (v:=.string (rdOf ByteArray.empty y556 t559)) (by rfl) rfl ?_ ?_
     ·go_simp
      (try simp only [i64_w])
      try rfl
     refine hK.out _ _ ⟨v557,adz_v557,m6_,q115_,fun h0_ => absurd ((hon 5 (by kernel_rfl)).symm.trans h0_) (by decide),Q_HK,Q_HB,Q_HO558,Q_HA_HO558,Q_HI0_e5,Q_X6_⟩
    refine steps_cons ?_ ?_
    ·rintro b a w' ⟨v557,adz_v557,m6_,ha,Q_HI0,Q_HK,Q_HB,Q_HO558,Q_HA_HO558,Q_HI0_e5,Q_X6_⟩ hb_ hon hoff
     refine ⟨_,rfl,fun K hK => ?_⟩
     have e28:a.tmps[28]? = some (.string (a1.extract 0 (t554:Int).toNat)):=by rw [ha];exact putSel_on (e:=(2,28,.string (a1.extract 0 (t554:Int).toNat))) 0 rfl rfl (hon 2 (by kernel_rfl)) rfl
     have e33:a.tmps[33]? = some (.string (rdOf ByteArray.empty y556 t559)):=by rw [ha];exact putSel_on (e:=(7,33,.string (rdOf ByteArray.empty y556 t559))) 4 rfl rfl (hon 7 (by kernel_rfl)) rfl
     replace ha:=Aside0.mk ha
     have HK:=Aside0.mk Q_HK
     have HB:=Aside0.mk Q_HB
     have HO558:=Aside0.mk (Q_HO558 (hon 3 (by kernel_rfl)))
     have HA_HO558:=Aside0.mk (Q_HA_HO558 (hon 3 (by kernel_rfl)))
     have HI0:=Aside0.mk (Q_HI0_e5 (hon 5 (by kernel_rfl)))
     refine value_ (w1:=w') (v:=.string ((a1.extract 0 (t554:Int).toNat) ++ (rdOf ByteArray.empty y556 t559))) (by rfl) rfl ?_ ?_
     ·go_simp
      (try simp only [i64_w])
      try rfl
     refine hK.out _ _ ⟨v557,adz_v557,m6_,q116_,fun h0_ => absurd ((hon 5 (by kernel_rfl)).symm.trans h0_) (by decide),Q_HK,Q_HB,Q_HO558,Q_HA_HO558,Q_HI0_e5,Q_X6_⟩
    refine steps_cons ?_ ?_
    ·rintro b a w' ⟨v557,adz_v557,m6_,ha,Q_HI0,Q_HK,Q_HB,Q_HO558,Q_HA_HO558,Q_HI0_e5,Q_X6_⟩ hb_ hon hoff
     refine ⟨_,rfl,fun K hK => ?_⟩
     have e36:a.tmps[36]? = some (.int .i64 t554):=by rw [ha];exact (putSel_off rfl).trans rfl
     replace ha:=Aside0.mk ha
     have HK:=Aside0.mk Q_HK
     have HB:=Aside0.mk Q_HB
     refine value_ (w1:=w') (v:=.int .i64 ji19) (by rfl) rfl ?_ ?_
     ·go_simp
      (try simp only [i64_w])
      try rfl
     refine hK.out _ _ ⟨v557,adz_v557,m6_,q117_,Q_HI0,Q_HK,Q_HB,Q_HO558,Q_HA_HO558,Q_HI0_e5,Q_X6_⟩
    refine steps_cons ?_ ?_
    ·rintro b a w' ⟨v557,adz_v557,m6_,ha,Q_HI0,Q_HK,Q_HB,Q_HO558,Q_HA_HO558,Q_HI0_e5,Q_X6_⟩ hb_ hon hoff
     refine ⟨_,rfl,fun K hK => ?_⟩
     have e35:a.tmps[35]? = some (.string a1):=by rw [ha];exact (putSel_off rfl).trans rfl
     have e37:a.tmps[37]? = some (.int .i64 ji19):=by rw [ha];exact putSel_on (e:=(11,37,.int .i64 ji19)) 6 rfl rfl (hon 11 (by kernel_rfl)) rfl
     replace ha:=Aside0.mk ha
     have HK:=Aside0.mk Q_HK
     have HB:=Aside0.mk Q_HB
     refine value_ (w1:=w') (v:=.string (a1.extract ((ji19):Int).toNat a1.size)) (by rfl) rfl ?_ ?_
     ·go_simp
      (try simp only [i64_w])
      try rfl
     refine hK.out _ _ ⟨v557,adz_v557,m6_,q118_,Q_HI0,Q_HK,Q_HB,Q_HO558,Q_HA_HO558,Q_HI0_e5,Q_X6_⟩
    refine steps_cons ?_ ?_
    ·rintro b a w' ⟨v557,adz_v557,m6_,ha,Q_HI0,Q_HK,Q_HB,Q_HO558,Q_HA_HO558,Q_HI0_e5,Q_X6_⟩ hb_ hon hoff
     refine ⟨_,rfl,fun K hK => ?_⟩
     have e34:a.tmps[34]? = some (.string ((a1.extract 0 (t554:Int).toNat) ++ (rdOf ByteArray.empty y556 t559))):=by rw [ha];exact putSel_on (e:=(8,34,.string ((a1.extract 0 (t554:Int).toNat) ++ (rdOf ByteArray.empty y556 t559)))) 5 rfl rfl (hon 8 (by kernel_rfl)) rfl
     have e38:a.tmps[38]? = some (.string (a1.extract ((ji19):Int).toNat a1.size)):=by rw [ha];exact putSel_on (e:=(12,38,.string (a1.extract ((ji19):Int).toNat a1.size))) 7 rfl rfl (hon 12 (by kernel_rfl)) rfl
     replace ha:=Aside0.mk ha
     have HK:=Aside0.mk Q_HK
     have HB:=Aside0.mk Q_HB
     have HO558:=Aside0.mk (Q_HO558 (hon 3 (by kernel_rfl)))
     have HA_HO558:=Aside0.mk (Q_HA_HO558 (hon 3 (by kernel_rfl)))
     have HI0:=Aside0.mk (Q_HI0_e5 (hon 5 (by kernel_rfl)))
     refine value_ (w1:=w') (v:=.string (((a1.extract 0 (t554:Int).toNat) ++ (rdOf ByteArray.empty y556 t559)) ++ (a1.extract ((ji19):Int).toNat a1.size))) (by rfl) rfl ?_ ?_
     ·go_simp
      (try simp only [i64_w])
      try rfl
     refine hK.out _ _ ⟨v557,adz_v557,m6_,q119_,fun h0_ => absurd ((hon 5 (by kernel_rfl)).symm.trans h0_) (by decide),Q_HK,Q_HB,Q_HO558,Q_HA_HO558,Q_HI0_e5,Q_X6_⟩
    refine steps_cons ?_ ?_
    ·rintro b a w' ⟨v557,adz_v557,m6_,ha,Q_HI0,Q_HK,Q_HB,Q_HO558,Q_HA_HO558,Q_HI0_e5,Q_X6_⟩ hb_ hon hoff
     refine ⟨_,rfl,fun K hK => ?_⟩
     have e39:a.tmps[39]? = some (.string (((a1.extract 0 (t554:Int).toNat) ++ (rdOf ByteArray.empty y556 t559)) ++ (a1.extract ((ji19):Int).toNat a1.size))):=by rw [ha];exact putSel_on (e:=(13,39,.string (((a1.extract 0 (t554:Int).toNat) ++ (rdOf ByteArray.empty y556 t559)) ++ (a1.extract ((ji19):Int).toNat a1.size)))) 8 rfl rfl (hon 13 (by kernel_rfl)) rfl
     replace ha:=Aside0.mk ha
     have HK:=Aside0.mk Q_HK
     have HB:=Aside0.mk Q_HB
     have HO558:=Aside0.mk (Q_HO558 (hon 3 (by kernel_rfl)))
     have HA_HO558:=Aside0.mk (Q_HA_HO558 (hon 3 (by kernel_rfl)))
     have HI0:=Aside0.mk (Q_HI0_e5 (hon 5 (by kernel_rfl)))
     refine value_ (w1:=w') (v:=.string (((a1.extract 0 (t554:Int).toNat) ++ (rdOf ByteArray.empty y556 t559)) ++ (a1.extract ((ji19):Int).toNat a1.size))) (by rfl) rfl ?_ ?_
     ·go_simp
      (try simp only [i64_w])
      try rfl
     refine hK.out _ _ ⟨v557,adz_v557,m6_,q120_,fun h0_ => absurd ((hon 5 (by kernel_rfl)).symm.trans h0_) (by decide),Q_HK,Q_HB,Q_HO558,Q_HA_HO558,Q_HI0_e5,Q_X6_⟩
    exact steps_nil
   rintro b a w30 hall ⟨v557,adz_v557,m6_,ha,Q_HI0,Q_HK,Q_HB,Q_HO558,Q_HA_HO558,Q_HI0_e5,Q_X6_⟩
   clear HB HI0 HK
   have hb2_:=hall 2 (by kernel_rfl)
   have hb3_:=hall 3 (by kernel_rfl)
   have hb5_:=hall 5 (by kernel_rfl)
   have hb6_:=hall 6 (by kernel_rfl)
   have hb7_:=hall 7 (by kernel_rfl)
   have hb8_:=hall 8 (by kernel_rfl)
   have hb11_:=hall 11 (by kernel_rfl)
   have hb12_:=hall 12 (by kernel_rfl)
   have hb13_:=hall 13 (by kernel_rfl)
   have hb14_:=hall 14 (by kernel_rfl)
   subst ha
   obtain rfl:=Q_X6_ hb6_
   simp only [putSel,hb2_,hb3_,hb5_,hb6_,hb7_,hb8_,hb11_,hb12_,hb13_,hb14_,if_true,Act.put,List.setIfInBounds_toArray,List.set_cons_zero,List.set_cons_succ]
   clear Q_HI0
   have HK:=Aside0.mk Q_HK
   clear Q_HK
   have HB:=Aside0.mk Q_HB
   clear Q_HB
   have HO558:=Aside0.mk (Q_HO558 hb3_)
   clear Q_HO558
   have HA_HO558:=Aside0.mk (Q_HA_HO558 hb3_)
   clear Q_HA_HO558
   have HI0:=Aside0.mk (Q_HI0_e5 hb5_)
   clear Q_HI0_e5
   clear hall hb2_ hb3_ hb5_ hb6_ hb7_ hb8_ hb11_ hb12_ hb13_ hb14_
   obtain ⟨co31,eo31⟩:=HA_HO558.out
   clear HA_HO558
   subst eo31
   try go_wp2
   go_ret
   exact ⟨by first | rfl | (simp [errW_none,errW_some] <;> rfl) | (simp only [← hji19];first | rfl | (simp [errW_none,errW_some] <;> rfl)) | (simp [*,errW_none,errW_some] <;> rfl) | (exfalso;simp_all;done),q68_,q54_,q69_⟩
  rw [if_neg c11] at H
  have c11b0:decide (0 < (a1.size:Int)) = false:=decide_eq_false c11
  have c11b1:decide (0 < a1.size) = false:=decide_eq_false (by omega)
  clear c11
  simp only [Option.some.injEq,Prod.mk.injEq] at H
  obtain ⟨rfl,rfl⟩:=H
  go_enter Tryz.func73,Tryz.ntmps73
  go_wp2_with (first | ((with_reducible refine gate_callee (f:=44) rfl ?_);refine goesL_ (some 7) rfl rfl Tryz.func44 (by kernel_rfl) rfl #[.pointer (some ⟨g,0,none⟩),.int .i64 6] rfl q71_ ?_;(with_reducible refine (spec_l1Rd_below.calls g s0_0 s0_1 6 t550 t551 w0 _ ?side1 ?side2 A3.out).mono ?_);(case side1 => exact q138_);(case side2 => exact q134_);rintro e w32 ⟨rfl,hi,hb,hk⟩;refine ⟨_,rfl,?_⟩;have n0_:=Aside0.mk (KeepBut.trans q69_ hk (.inl rfl));have n1_:=Aside0.mk (hb);have n2_:=Aside0.mk (hi);clear HK;clear HB;clear HI0;have HK:=n0_;have HB:=n1_;have HI0:=n2_;clear n0_ n1_ n2_;(try clear hb);(try clear hk);(try clear hi)))
  go_ret
  exact ⟨q74_,q68_,q54_,q69_⟩
 rw [if_neg c10] at H
 have c10b0:(t550 == 2) = false:=beq_eq_false_iff_ne.mpr c10
 have c10b1:(t550 != 2) = true:=bne_iff_ne.mpr c10
 by_cases c33:t550 = 3
 ·rw [if_pos c33] at H
  have c33b0:(t550 == 3) = true:=beq_iff_eq.mpr c33
  have c33b1:(t550 != 3) = false:=bne_eq_false_iff_eq.mpr c33
  clear c33
  obtain ⟨y562,hy562⟩:∃ y_:List ByteArray,y_ = (([(⟨#[32]⟩:ByteArray),(⟨#[48]⟩:ByteArray),(⟨#[120]⟩:ByteArray)]:List ByteArray)):=⟨_,rfl⟩
  replace H:((spec_l1Rd_below.f s0_0 t551 3).bind fun bt565 => (if 0 ≤ bt565.1 then (if bt565.1 < (y562.length:Int) then (if a1.size + (rdOf ByteArray.empty y562 bt565.1).size ≤ 9223372036854775807 then (some (a1 ++ (rdOf ByteArray.empty y562 bt565.1),bt565.2)) else (none)) else (none)) else (none))) = some (r1,r2):=by first | (rw [hy562];exact H) | exact H
  have Ny562:=Aside0.mk hy562
  clear hy562
  replace H:=Option.bind_eq_some_iff.mp H
  obtain ⟨⟨t565,t566⟩,A340,H⟩:=H
  try dsimp -simprocs -eta only at H
  have A34:=Aside0.mk A340
  clear A340
  by_cases c35:0 ≤ t565
  rotate_left
  ·rw [if_neg c35] at H
   exact absurd H (by simp)
  rw [if_pos c35] at H
  have c35b0:=decide_eq_true c35
  clear c35
  by_cases c36:t565 < (y562.length:Int)
  rotate_left
  ·rw [if_neg c36] at H
   exact absurd H (by simp)
  rw [if_pos c36] at H
  have c36b0:=decide_eq_true c36
  clear c36
  by_cases c37:a1.size + (rdOf ByteArray.empty y562 t565).size ≤ 9223372036854775807
  rotate_left
  ·rw [if_neg c37] at H
   exact absurd H (by simp)
  rw [if_pos c37] at H
  have c37b0:=eq_true c37
  have c37b1:=decide_eq_true c37
  try have c37b2:(9223372036854775807 < a1.size + (rdOf ByteArray.empty y562 t565).size) = False:=eq_false (Nat.not_lt.2 c37)
  simp only [Option.some.injEq,Prod.mk.injEq] at H
  obtain ⟨rfl,rfl⟩:=H
  go_enter Tryz.func73,Tryz.ntmps73
  go_wp2_with (first | ((with_reducible refine gate_callee (f:=44) rfl ?_);refine goesL_ (some 7) rfl rfl Tryz.func44 (by kernel_rfl) rfl #[.pointer (some ⟨g,0,none⟩),.int .i64 6] rfl q71_ ?_;(with_reducible refine (spec_l1Rd_below.calls g s0_0 s0_1 6 t550 t551 w0 _ ?side1 ?side2 A3.out).mono ?_);(case side1 => exact q138_);(case side2 => exact q134_);rintro e w38 ⟨rfl,hi,hb,hk⟩;refine ⟨_,rfl,?_⟩;have n0_:=Aside0.mk (KeepBut.trans q69_ hk (.inl rfl));have n1_:=Aside0.mk (hb);have n2_:=Aside0.mk (hi);clear HK;clear HB;clear HI0;have HK:=n0_;have HB:=n1_;have HI0:=n2_;clear n0_ n1_ n2_;(try clear hb);(try clear hk);(try clear hi)) | ((with_reducible refine gate_dst (N:=43) rfl ?_);refine Kd.R_lit Kd.string _ 9 ?hg (N:=43) ?hd (xs:=([(⟨#[32]⟩:ByteArray),(⟨#[48]⟩:ByteArray),(⟨#[120]⟩:ByteArray)]:List ByteArray)) (inner:=[.string (⟨#[32]⟩:ByteArray),.string (⟨#[48]⟩:ByteArray),.string (⟨#[120]⟩:ByteArray)]) (ok:=fun _ => True) (okp:=fun _ => True) ?hr ?hp (fun _ hk => hk) trivial (Below.refl _ _) (Nat.le_refl _) (by simp) ?_;(case hd => rfl);(case hg => rfl);(case hr => exact q139_);(case hp => exact (Reps.one (show Kd.M Kd.string _ _ _ (⟨#[32]⟩:ByteArray) [.string (⟨#[32]⟩:ByteArray)] from rfl) (Reps.one (show Kd.M Kd.string _ _ _ (⟨#[48]⟩:ByteArray) [.string (⟨#[48]⟩:ByteArray)] from rfl) (Reps.one (show Kd.M Kd.string _ _ _ (⟨#[120]⟩:ByteArray) [.string (⟨#[120]⟩:ByteArray)] from rfl) (Reps.none _ _)))));intro v563 w39 ho40 hb hg_ hnew_;clear hg_ hnew_;(first | rw [← Ny562.out] at ho40 | (simp only [Int.reduceToNat] at ho40;rw [← Ny562.out] at ho40));have n0_:=Aside0.mk (Kd.R_lower ho40 (keep_size (w:=w) (g:=g) (row:=none) q69_));have n1_:=Aside0.mk (IsS96.below q68_ hb);have n2_:=Aside0.mk (KeepBut.trans q69_ (KeepBut.of_below hb g none) (.inl rfl));have n3_:=Aside0.mk (below_step q54_ hb);clear HI0;clear HK;clear HB;have HO564:=n0_;have HI0:=n1_;have HK:=n2_;have HB:=n3_;clear n0_ n1_ n2_ n3_;clear hb ho40) | ((with_reducible refine gate_callee (f:=44) rfl ?_);refine goesL_ (some 45) rfl rfl Tryz.func44 (by kernel_rfl) rfl #[.pointer (some ⟨g,0,none⟩),.int .i64 3] rfl q71_ ?_;(with_reducible refine (spec_l1Rd_below.calls g s0_0 t551 3 t565 t566 w0 _ ?side1 ?side2 A34.out).mono ?_);(case side1 => exact q138_);(case side2 => exact q134_);rintro e w41 ⟨rfl,hi,hb,hk⟩;refine ⟨_,rfl,?_⟩;have n0_:=Aside0.mk (Kd.R_mono (Kd.R_keep (IsS96.apart (show IsS96 w0 _ g s0_0 t551 from by repeat (first | (with_reducible first | exact HI0.out | apply IsS96.alloc | apply IsS96.drewN | apply IsS96.drew | apply IsS96.set_1) | exact HI0.out)) (by (with_reducible repeat (first | apply Kd.R_alloc | apply Kd.R_drewN | apply Kd.R_drew));exact HO564.out) (by decide)) hk (fun _ h => h.2)) (fun _ h => h.1));have n1_:=Aside0.mk (KeepBut.trans q69_ hk (.inl rfl));have n2_:=Aside0.mk (hb);have n3_:=Aside0.mk (hi);clear HO564;clear HK;clear HB;clear HI0;have HO564:=n0_;have HK:=n1_;have HB:=n2_;have HI0:=n3_;clear n0_ n1_ n2_ n3_;(try clear hb);(try clear hk);(try clear hi);obtain ⟨Ao42,co42,eo42⟩:=Kd.R_slice HO564.out;subst eo42;have p567:0 ≤ (t565:Int):=of_decide_eq_true q109_;have q567:t565 < (y562.length:Int):=of_decide_eq_true q109_;obtain ⟨ad567,e567,hx567_0⟩:=Kd.at_string (Kd.R_reads' HO564.out).2.2 t565 p567 q567;cases e567;replace p567:=eq_true p567;replace q567:=eq_true q567))
  go_ret
  exact ⟨q74_,q68_,q54_,q69_⟩
 rw [if_neg c33] at H
 have c33b0:(t550 == 3) = false:=beq_eq_false_iff_ne.mpr c33
 have c33b1:(t550 != 3) = true:=bne_iff_ne.mpr c33
 simp only [Option.some.injEq,Prod.mk.injEq] at H
 obtain ⟨rfl,rfl⟩:=H
 go_enter Tryz.func73,Tryz.ntmps73
 go_wp2_with (first | ((with_reducible refine gate_callee (f:=44) rfl ?_);refine goesL_ (some 7) rfl rfl Tryz.func44 (by kernel_rfl) rfl #[.pointer (some ⟨g,0,none⟩),.int .i64 6] rfl q71_ ?_;(with_reducible refine (spec_l1Rd_below.calls g s0_0 s0_1 6 t550 t551 w0 _ ?side1 ?side2 A3.out).mono ?_);(case side1 => exact q138_);(case side2 => exact q134_);rintro e w43 ⟨rfl,hi,hb,hk⟩;refine ⟨_,rfl,?_⟩;have n0_:=Aside0.mk (KeepBut.trans q69_ hk (.inl rfl));have n1_:=Aside0.mk (hb);have n2_:=Aside0.mk (hi);clear HK;clear HB;clear HI0;have HK:=n0_;have HB:=n1_;have HI0:=n2_;clear n0_ n1_ n2_;(try clear hb);(try clear hk);(try clear hi)))
 go_ret
 exact ⟨q74_,q68_,q54_,q69_⟩
def spec_DrawReadInsText.f (k:Nat) (l0:List Int):Option (ByteArray):=(spec_l1Open.f l0).bind fun bt568 => ((spec_l1Rd_ins.f k bt568.1 bt568.2).bind fun bt571 => ((spec_InsText.f k bt571.1 bt571.2.1 bt571.2.2.1).bind fun t575 => ((spec_l1Rd_once.f bt568.1 bt571.2.2.2 3).bind fun bt576 => (if bt576.1 = true then ((spec_l1Rd_hurt.f bt568.1 bt576.2 t575).bind fun bt578 => (some bt578.1)) else (some t575)))))
theorem spec_DrawReadInsText.calls (k:Nat) (A0:Option Addr) (c0:Nat) (l0:List Int) (r:ByteArray) (w:World) (hr0:Kd.C (Kd.int .u8) w A0 l0.length l0) (hc0:l0.length ≤ c0) (h:spec_DrawReadInsText.f k l0 = some r) :
  Calls Tryz.prog 29 #[.slice A0 l0.length c0] w fun e w' => e = .returned (.string r) ∧ Below w.heap.size w w':=by
 have HR0:=Aside0.mk hr0
 have HC0:=Aside0.mk hc0
 clear hr0 hc0
 have HB:=Aside0.mk (Below.refl w.heap.size w)
 have H:=h;unfold spec_DrawReadInsText.f at H
 clear h
 replace H:=Option.bind_eq_some_iff.mp H
 obtain ⟨⟨t568,t569⟩,A20,H⟩:=H
 try dsimp -simprocs -eta only at H
 have A2:=Aside0.mk A20
 clear A20
 replace H:=Option.bind_eq_some_iff.mp H
 obtain ⟨⟨t571,t572,t573,t574⟩,A30,H⟩:=H
 try dsimp -simprocs -eta only at H
 have A3:=Aside0.mk A30
 clear A30
 replace H:=Option.bind_eq_some_iff.mp H
 obtain ⟨t575,A40,H⟩:=H
 have A4:=Aside0.mk A40
 clear A40
 replace H:=Option.bind_eq_some_iff.mp H
 obtain ⟨⟨t576,t577⟩,A50,H⟩:=H
 try dsimp -simprocs -eta only at H
 have A5:=Aside0.mk A50
 clear A50
 by_cases c6:t576 = true
 ·subst c6
  rewrite [if_pos rfl] at H
  replace H:=Option.bind_eq_some_iff.mp H
  obtain ⟨⟨t578,t579⟩,A70,H⟩:=H
  replace H:(some t578) = some r:=H
  have A7:=Aside0.mk A70
  clear A70
  obtain rfl:=Option.some.inj H
  go_enter Tryz.func29,Tryz.ntmps29
  go_wp2_with (first | ((with_reducible refine gate_callee (f:=43) rfl ?_);refine goesL_ (some 6) rfl rfl Tryz.func43 (by kernel_rfl) rfl #[.slice A0 l0.length c0] rfl q71_ ?_;(with_reducible refine (spec_l1Open.calls _ _ l0 t568 t569 w _ ?side1 ?side2 ?side3 A2.out).mono ?_);(case side1 => repeat (first | (with_reducible first | exact HB.out | apply below_alloc | apply pw_below_drewN | apply below_drew1) | exact HB.out));(case side2 => exact HR0.out);(case side3 => exact HC0.out);rintro e w8 ⟨g570,rfl,hi,hb,hb2⟩;refine ⟨_,rfl,?_⟩;have n0_:=Aside0.mk (hb);have n1_:=Aside0.mk (hi);clear HB;have HB:=n0_;have HI570:=n1_;clear n0_ n1_;(try clear hb);(try clear hb2);(try clear hi)) | ((with_reducible refine gate_callee (f:=62) rfl ?_);refine goesL_ (some 8) rfl rfl Tryz.func62 (by kernel_rfl) rfl #[.pointer (some ⟨g570,0,none⟩)] rfl q71_ ?_;(with_reducible refine (spec_l1Rd_ins.calls k g570 t568 t569 t571 t572 t573 t574 w _ ?side1 ?side2 A3.out).mono ?_);(case side1 => exact q136_);(case side2 => exact q133_);rintro e w9 ⟨rfl,hi,hb,hk⟩;refine ⟨_,rfl,?_⟩;have n0_:=Aside0.mk (hb);have n1_:=Aside0.mk (hi);clear HB;clear HI570;have HB:=n0_;have HI570:=n1_;clear n0_ n1_;(try clear hb);(try clear hk);(try clear hi)) | ((with_reducible refine gate_callee (f:=28) rfl ?_);refine goesL_ (some 9) rfl rfl Tryz.func28 (by kernel_rfl) rfl #[.agg #[.int .i64 t571,.bool t572,.int .i64 t573]] rfl q71_ ?_;(with_reducible refine (spec_InsText.calls k t571 t572 t573 t575 _ A4.out).mono ?_);rintro e w10 ⟨rfl,hb⟩;refine ⟨_,rfl,?_⟩;have n0_:=Aside0.mk (IsS96.below q67_ hb);have n1_:=Aside0.mk (below_step q53_ hb);clear HI570;clear HB;have HI570:=n0_;have HB:=n1_;clear n0_ n1_;(try clear hb)) | ((with_reducible refine gate_callee (f:=45) rfl ?_);refine goesL_ (some 11) rfl rfl Tryz.func45 (by kernel_rfl) rfl #[.pointer (some ⟨g570,0,none⟩),.int .i64 3] rfl q71_ ?_;(with_reducible refine (spec_l1Rd_once.calls g570 t568 t574 3 true t577 w _ ?side1 ?side2 A5.out).mono ?_);(case side1 => exact q136_);(case side2 => exact q133_);rintro e w11 ⟨rfl,hi,hb,hk⟩;refine ⟨_,rfl,?_⟩;have n0_:=Aside0.mk (hb);have n1_:=Aside0.mk (hi);clear HB;clear HI570;have HB:=n0_;have HI570:=n1_;clear n0_ n1_;(try clear hb);(try clear hk);(try clear hi)) | ((with_reducible refine gate_callee (f:=73) rfl ?_);refine goesL_ (some 14) rfl rfl Tryz.func73 (by kernel_rfl) rfl #[.pointer (some ⟨g570,0,none⟩),.string t575] rfl q71_ ?_;(with_reducible refine (spec_l1Rd_hurt.calls g570 t568 t577 t575 t578 t579 w _ ?side1 ?side2 A7.out).mono ?_);(case side1 => exact q136_);(case side2 => exact q133_);rintro e w12 ⟨rfl,hi,hb,hk⟩;refine ⟨_,rfl,?_⟩;have n0_:=Aside0.mk (hb);have n1_:=Aside0.mk (hi);clear HB;clear HI570;have HB:=n0_;have HI570:=n1_;clear n0_ n1_;(try clear hb);(try clear hk);(try clear hi)))
  go_ret
  exact ⟨q74_,q53_⟩
 replace c6:=Bool.eq_false_iff.mpr c6
 subst c6
 rewrite [if_neg (show ¬ (false = true) by decide)] at H
 obtain rfl:=Option.some.inj H
 go_enter Tryz.func29,Tryz.ntmps29
 go_wp2_with (first | ((with_reducible refine gate_callee (f:=43) rfl ?_);refine goesL_ (some 6) rfl rfl Tryz.func43 (by kernel_rfl) rfl #[.slice A0 l0.length c0] rfl q71_ ?_;(with_reducible refine (spec_l1Open.calls _ _ l0 t568 t569 w _ ?side1 ?side2 ?side3 A2.out).mono ?_);(case side1 => repeat (first | (with_reducible first | exact HB.out | apply below_alloc | apply pw_below_drewN | apply below_drew1) | exact HB.out));(case side2 => exact HR0.out);(case side3 => exact HC0.out);rintro e w13 ⟨g570,rfl,hi,hb,hb2⟩;refine ⟨_,rfl,?_⟩;have n0_:=Aside0.mk (hb);have n1_:=Aside0.mk (hi);clear HB;have HB:=n0_;have HI570:=n1_;clear n0_ n1_;(try clear hb);(try clear hb2);(try clear hi)) | ((with_reducible refine gate_callee (f:=62) rfl ?_);refine goesL_ (some 8) rfl rfl Tryz.func62 (by kernel_rfl) rfl #[.pointer (some ⟨g570,0,none⟩)] rfl q71_ ?_;(with_reducible refine (spec_l1Rd_ins.calls k g570 t568 t569 t571 t572 t573 t574 w _ ?side1 ?side2 A3.out).mono ?_);(case side1 => exact q136_);(case side2 => exact q133_);rintro e w14 ⟨rfl,hi,hb,hk⟩;refine ⟨_,rfl,?_⟩;have n0_:=Aside0.mk (hb);have n1_:=Aside0.mk (hi);clear HB;clear HI570;have HB:=n0_;have HI570:=n1_;clear n0_ n1_;(try clear hb);(try clear hk);(try clear hi)) | ((with_reducible refine gate_callee (f:=28) rfl ?_);refine goesL_ (some 9) rfl rfl Tryz.func28 (by kernel_rfl) rfl #[.agg #[.int .i64 t571,.bool t572,.int .i64 t573]] rfl q71_ ?_;(with_reducible refine (spec_InsText.calls k t571 t572 t573 t575 _ A4.out).mono ?_);rintro e w15 ⟨rfl,hb⟩;refine ⟨_,rfl,?_⟩;have n0_:=Aside0.mk (IsS96.below q67_ hb);have n1_:=Aside0.mk (below_step q53_ hb);clear HI570;clear HB;have HI570:=n0_;have HB:=n1_;clear n0_ n1_;(try clear hb)) | ((with_reducible refine gate_callee (f:=45) rfl ?_);refine goesL_ (some 11) rfl rfl Tryz.func45 (by kernel_rfl) rfl #[.pointer (some ⟨g570,0,none⟩),.int .i64 3] rfl q71_ ?_;(with_reducible refine (spec_l1Rd_once.calls g570 t568 t574 3 false t577 w _ ?side1 ?side2 A5.out).mono ?_);(case side1 => exact q136_);(case side2 => exact q133_);rintro e w16 ⟨rfl,hi,hb,hk⟩;refine ⟨_,rfl,?_⟩;have n0_:=Aside0.mk (hb);have n1_:=Aside0.mk (hi);clear HB;clear HI570;have HB:=n0_;have HI570:=n1_;clear n0_ n1_;(try clear hb);(try clear hk);(try clear hi)))
 go_ret
 exact ⟨q74_,q53_⟩
def spec_l3Fits.j0:Nat → ByteArray → Int → ByteArray → Bool → Option (ByteArray × Bool)
 | 0,_,_,_,_ => none
 | k + 1,x0,x6,x8,x51 => if x51 = true then (some ((⟨#[]⟩:ByteArray),false)) else (if 0 ≤ x6 then (if x6 ≤ (wrap64 ((x0.size:Int) - (x8.size:Int))) then (if (wrap64 ((x0.size:Int) - (x8.size:Int))) ≤ (x0.size:Int) then (some (x0.extract (x6:Int).toNat ((wrap64 ((x0.size:Int) - (x8.size:Int))):Int).toNat,true)) else (none)) else (none)) else (none))
def spec_l3Fits.f (k:Nat) (a0:ByteArray) (a1:ByteArray):Option (ByteArray × Bool):=(spec_l3Hole.f k a1).bind fun bt580 => (if bt580.1 < 0 then (some ((⟨#[]⟩:ByteArray),(a0.toList == a1.toList))) else (if 0 ≤ (wrap64 (bt580.1 + (bt580.2.size:Int))) then (if (wrap64 (bt580.1 + (bt580.2.size:Int))) ≤ (a1.size:Int) then (if (a0.size:Int) ≤ (wrap64 (bt580.1 + ((a1.extract ((wrap64 (bt580.1 + (bt580.2.size:Int))):Int).toNat a1.size).size:Int))) then (spec_l3Fits.j0 k a0 bt580.1 (a1.extract ((wrap64 (bt580.1 + (bt580.2.size:Int))):Int).toNat a1.size) true) else (if 0 ≤ bt580.1 then (if bt580.1 ≤ (a0.size:Int) then (if bt580.1 ≤ (a1.size:Int) then (if (a0.extract 0 (bt580.1:Int).toNat).toList = (a1.extract 0 (bt580.1:Int).toNat).toList then (if 0 ≤ (wrap64 ((a0.size:Int) - ((a1.extract ((wrap64 (bt580.1 + (bt580.2.size:Int))):Int).toNat a1.size).size:Int))) then (if (wrap64 ((a0.size:Int) - ((a1.extract ((wrap64 (bt580.1 + (bt580.2.size:Int))):Int).toNat a1.size).size:Int))) ≤ (a0.size:Int) then (spec_l3Fits.j0 k a0 bt580.1 (a1.extract ((wrap64 (bt580.1 + (bt580.2.size:Int))):Int).toNat a1.size) ((a0.extract ((wrap64 ((a0.size:Int) - ((a1.extract ((wrap64 (bt580.1 + (bt580.2.size:Int))):Int).toNat a1.size).size:Int))):Int).toNat a0.size).toList != (a1.extract ((wrap64 (bt580.1 + (bt580.2.size:Int))):Int).toNat a1.size).toList)) else (none)) else (none)) else (spec_l3Fits.j0 k a0 bt580.1 (a1.extract ((wrap64 (bt580.1 + (bt580.2.size:Int))):Int).toNat a1.size) true)) else (none)) else (none)) else (none))) else (none)) else (none)))
theorem spec_l3Fits.calls (k:Nat) (a0:ByteArray) (a1:ByteArray) (r1:ByteArray) (r2:Bool) (w:World) (h:spec_l3Fits.f k a0 a1 = some (r1,r2)) :
  Calls Tryz.prog 74 #[.string a0,.string a1] w fun e w' => e = .returned (.tuple #[.string r1,.bool r2]) ∧ Below w.heap.size w w':=by
 have HB:=Aside0.mk (Below.refl w.heap.size w)
 have H:=h;unfold spec_l3Fits.f at H
 clear h
 replace H:=Option.bind_eq_some_iff.mp H
 obtain ⟨⟨t580,t581⟩,A30,H⟩:=H
 try dsimp -simprocs -eta only at H
 have A3:=Aside0.mk A30
 clear A30
 by_cases c4:t580 < 0
 ·rw [if_pos c4] at H
  have c4b0:=decide_eq_true c4
  clear c4
  simp only [Option.some.injEq,Prod.mk.injEq] at H
  obtain ⟨rfl,rfl⟩:=H
  go_enter Tryz.func74,Tryz.ntmps74
  go_wp2_with (first | (go_at_call 59;(with_reducible refine (spec_l3Hole.calls k a1 t580 t581 _ A3.out).mono ?_);rintro e w5 ⟨rfl,hb⟩;replace HB:=Aside0.mk (below_step q72_ hb);(try clear hb)))
  repeat (go_quiet (first | (go_at_call 59;(with_reducible refine (spec_l3Hole.calls k a1 t580 t581 _ A3.out).mono ?_);rintro e w5 ⟨rfl,hb⟩;replace HB:=Aside0.mk (below_step q72_ hb);(try clear hb)));try go_wp2_with (first | (go_at_call 59;(with_reducible refine (spec_l3Hole.calls k a1 t580 t581 _ A3.out).mono ?_);rintro e w5 ⟨rfl,hb⟩;replace HB:=Aside0.mk (below_step q72_ hb);(try clear hb))))
  go_ret2
  exact ⟨q74_,q72_⟩
 rw [if_neg c4] at H
 have c4b0:=decide_eq_false c4
 clear c4
 obtain ⟨ji6,hji6⟩:∃ j_:Int,(wrap64 (t580 + (t581.size:Int))) = j_:=⟨_,rfl⟩
 (first | rewrite [hji6] at H | simp only [hji6] at H)
 (try rw [hji6] at A3)
 have hji6w:(IntKind.i64.wrap (t580 + (t581.size:Int))) = ji6:=(i64_w _).trans hji6
 by_cases c7:0 ≤ (ji6)
 rotate_left
 ·rw [if_neg c7] at H
  exact absurd H (by simp)
 rw [if_pos c7] at H
 have c7b0:=eq_true c7
 have c7b1:=decide_eq_true c7
 clear c7
 by_cases c8:(ji6) ≤ (a1.size:Int)
 rotate_left
 ·rw [if_neg c8] at H
  exact absurd H (by simp)
 rw [if_pos c8] at H
 have c8b0:=eq_true c8
 have c8b1:=decide_eq_true c8
 clear c8
 have HC9:=Aside0.mk H
 clear H
 go_enter Tryz.func74,Tryz.ntmps74
 go_upto_region 5 with (first | (go_at_call 59;(with_reducible refine (spec_l3Hole.calls k a1 t580 t581 _ A3.out).mono ?_);rintro e w10 ⟨rfl,hb⟩;replace HB:=Aside0.mk (below_step q72_ hb);(try clear hb)))
 repeat (go_quiet (first | (go_at_call 59;(with_reducible refine (spec_l3Hole.calls k a1 t580 t581 _ A3.out).mono ?_);rintro e w10 ⟨rfl,hb⟩;replace HB:=Aside0.mk (below_step q72_ hb);(try clear hb)));go_upto_region 5 with (first | (go_at_call 59;(with_reducible refine (spec_l3Hole.calls k a1 t580 t581 _ A3.out).mono ?_);rintro e w10 ⟨rfl,hb⟩;replace HB:=Aside0.mk (below_step q72_ hb);(try clear hb))))
 (try simp only [Act.put,List.setIfInBounds_toArray,List.set_cons_zero,List.set_cons_succ])
 go_cut [51] (fun v51 wc => ∃ (kq:Nat) (x51_8:Bool),v51 = .bool x51_8 ∧ Aside0 (spec_l3Fits.j0 kq a0 t580 (a1.extract ((ji6):Int).toNat a1.size) x51_8 = some (r1,r2)) ∧ Aside0 (kq ≤ k) ∧ Aside0 (Below w.heap.size w wc))
 case first =>
  have H:=HC9.out
  clear HC9
  by_cases c11:(a0.size:Int) ≤ (wrap64 (t580 + ((a1.extract ((ji6):Int).toNat a1.size).size:Int)))
  ·rw [if_pos c11] at H
   have c11b0:=decide_eq_true c11
   (try (have c11b0e:=c11b0;simp only [ByteArray.size_append,ByteArray.size_extract,Nat.min_self,Nat.sub_zero] at c11b0e))
   clear c11
   (first | rw [c11b0] | (simp only [i64_w,i32_w];rw [c11b0]) | rw [c11b9] | skip)
   have H':=Aside0.mk H
   clear H
   go_wp2
   repeat (go_quiet (fail);try go_wp2)
   go_meet
   case rel => exact ⟨_,(true),q92_,q91_,⟨q121_⟩,⟨q72_⟩⟩
  rw [if_neg c11] at H
  have c11b0:=decide_eq_false c11
  (try (have c11b0e:=c11b0;simp only [ByteArray.size_append,ByteArray.size_extract,Nat.min_self,Nat.sub_zero] at c11b0e))
  clear c11
  (first | rw [c11b0] | (simp only [i64_w,i32_w];rw [c11b0]) | rw [c11b9] | skip)
  by_cases c12:0 ≤ t580
  rotate_left
  ·rw [if_neg c12] at H
   exact absurd H (by simp)
  rw [if_pos c12] at H
  have c12b0:=eq_true c12
  have c12b1:=decide_eq_true c12
  clear c12
  by_cases c13:t580 ≤ (a0.size:Int)
  rotate_left
  ·rw [if_neg c13] at H
   exact absurd H (by simp)
  rw [if_pos c13] at H
  have c13b0:=eq_true c13
  have c13b1:=decide_eq_true c13
  clear c13
  have c14b0:=eq_true (of_decide_eq_true q109_:0 ≤ t580)
  by_cases c15:t580 ≤ (a1.size:Int)
  rotate_left
  ·rw [if_neg c15] at H
   exact absurd H (by simp)
  rw [if_pos c15] at H
  have c15b0:=eq_true c15
  have c15b1:=decide_eq_true c15
  clear c15
  by_cases c16:(a0.extract 0 (t580:Int).toNat).toList = (a1.extract 0 (t580:Int).toNat).toList
  ·rw [if_pos c16] at H
   have c16b0:((a0.extract 0 (t580:Int).toNat).toList == (a1.extract 0 (t580:Int).toNat).toList) = true:=beq_iff_eq.mpr c16
   have c16b1:((a0.extract 0 (t580:Int).toNat).toList != (a1.extract 0 (t580:Int).toNat).toList) = false:=bne_eq_false_iff_eq.mpr c16
   clear c16
   obtain ⟨ji17,hji17⟩:∃ j_:Int,(wrap64 ((a0.size:Int) - ((a1.extract ((ji6):Int).toNat a1.size).size:Int))) = j_:=⟨_,rfl⟩
   (first | rewrite [hji17] at H | simp only [hji17] at H)
   have hji17w:(IntKind.i64.wrap ((a0.size:Int) - ((a1.extract ((ji6):Int).toNat a1.size).size:Int))) = ji17:=(i64_w _).trans hji17
   (try (have hji17e:=hji17w;simp only [ByteArray.size_append,ByteArray.size_extract,Nat.min_self,Nat.sub_zero] at hji17e))
   by_cases c18:0 ≤ (ji17)
   rotate_left
   ·rw [if_neg c18] at H
    exact absurd H (by simp)
   rw [if_pos c18] at H
   have c18b0:=eq_true c18
   have c18b1:=decide_eq_true c18
   clear c18
   by_cases c19:(ji17) ≤ (a0.size:Int)
   rotate_left
   ·rw [if_neg c19] at H
    exact absurd H (by simp)
   rw [if_pos c19] at H
   have c19b0:=eq_true c19
   have c19b1:=decide_eq_true c19
   clear c19
   have H':=Aside0.mk H
   clear H
   go_wp2
   repeat (go_quiet (fail);try go_wp2)
   go_meet
   case rel => exact ⟨_,(((a0.extract ((ji17):Int).toNat a0.size).toList != (a1.extract ((ji6):Int).toNat a1.size).toList)),(by first | rfl | (simp;done) | (simp only [← hji6,← hji17] <;> (first | rfl | (simp;done))) | (simp [*];done) | (simp;decide +kernel) | (simp [wrap64];done) | (simp [bne];done)),(by first | with_reducible exact H' | (have H2_:=H';simp only [← hji6,← hji17] at H2_ ⊢;with_reducible exact H2_) | exact H'),⟨q121_⟩,⟨q72_⟩⟩
  rw [if_neg c16] at H
  have c16b0:((a0.extract 0 (t580:Int).toNat).toList == (a1.extract 0 (t580:Int).toNat).toList) = false:=beq_eq_false_iff_ne.mpr c16
  have c16b1:((a0.extract 0 (t580:Int).toNat).toList != (a1.extract 0 (t580:Int).toNat).toList) = true:=bne_iff_ne.mpr c16
  have H':=Aside0.mk H
  clear H
  go_wp2
  repeat (go_quiet (fail);try go_wp2)
  go_meet
  case rel => exact ⟨_,(true),q92_,q91_,⟨q121_⟩,⟨q72_⟩⟩
 clear HC9
 try clear c1
 try clear p2
 try clear c4
 try clear c4b0
 try clear p6
 try clear c7
 try clear c7b0
 try clear c7b1
 try clear c8
 try clear c8b0
 try clear c8b1
 try clear c11
 try clear c11b0
 try clear c12
 try clear c12b0
 try clear c12b1
 try clear c13
 try clear c13b0
 try clear c13b1
 try clear c14
 try clear c14b0
 try clear c15
 try clear c15b0
 try clear c15b1
 try clear c16
 try clear c16b0
 try clear c16b1
 try clear c18
 try clear c18b0
 try clear c18b1
 try clear c19
 try clear c19b0
 try clear c19b1
 obtain ⟨kq,x51_8,rfl,HA,HJ8,HB⟩:=hcut
 cases kq with
 | zero => exact absurd HA.out (by simp [spec_l3Fits.j0])
 | succ kj8 =>
  have H:=HA.out
  clear HA
  simp only [spec_l3Fits.j0] at H
  by_cases c20:x51_8 = true
  ·subst c20
   rewrite [if_pos rfl] at H
   simp only [Option.some.injEq,Prod.mk.injEq] at H
   obtain ⟨rfl,rfl⟩:=H
   go_wp2
   repeat (go_quiet (fail);try go_wp2)
   go_ret2
   exact ⟨q43_,q72_⟩
  replace c20:=Bool.eq_false_iff.mpr c20
  subst c20
  rewrite [if_neg (show ¬ (false = true) by decide)] at H
  by_cases c21:0 ≤ t580
  rotate_left
  ·rw [if_neg c21] at H
   exact absurd H (by simp)
  rw [if_pos c21] at H
  have c21b0:=eq_true c21
  have c21b1:=decide_eq_true c21
  clear c21
  by_cases c22:t580 ≤ (wrap64 ((a0.size:Int) - ((a1.extract ((ji6):Int).toNat a1.size).size:Int)))
  rotate_left
  ·rw [if_neg c22] at H
   exact absurd H (by simp)
  rw [if_pos c22] at H
  have c22b0:=eq_true c22
  (try (have c22b0e:=c22b0;simp only [ByteArray.size_append,ByteArray.size_extract,Nat.min_self,Nat.sub_zero] at c22b0e))
  have c22b1:=decide_eq_true c22
  (try (have c22b1e:=c22b1;simp only [ByteArray.size_append,ByteArray.size_extract,Nat.min_self,Nat.sub_zero] at c22b1e))
  clear c22
  by_cases c23:(wrap64 ((a0.size:Int) - ((a1.extract ((ji6):Int).toNat a1.size).size:Int))) ≤ (a0.size:Int)
  rotate_left
  ·rw [if_neg c23] at H
   exact absurd H (by simp)
  rw [if_pos c23] at H
  have c23b0:=eq_true c23
  (try (have c23b0e:=c23b0;simp only [ByteArray.size_append,ByteArray.size_extract,Nat.min_self,Nat.sub_zero] at c23b0e))
  have c23b1:=decide_eq_true c23
  (try (have c23b1e:=c23b1;simp only [ByteArray.size_append,ByteArray.size_extract,Nat.min_self,Nat.sub_zero] at c23b1e))
  clear c23
  simp only [Option.some.injEq,Prod.mk.injEq] at H
  obtain ⟨rfl,rfl⟩:=H
  go_wp2
  repeat (go_quiet (fail);try go_wp2)
  go_ret2
  exact ⟨q43_,q72_⟩
end Go.Proofs.YtodlnnoekccmmaaGreatDoor.QFnInsTexts
