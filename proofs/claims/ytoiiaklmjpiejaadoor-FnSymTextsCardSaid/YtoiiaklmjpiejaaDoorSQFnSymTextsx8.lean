/- The machine's side of a law,written by a program of this session for this claim. -/
import Derived.Test.YtoiiaklmjpiejaaDoorSQq
import Derived.Test.YtoiiaklmjpiejaaDoorSQFnSymTextsx0
import Derived.Test.YtoiiaklmjpiejaaDoorSQFnSymTextsx1
import Derived.Test.YtoiiaklmjpiejaaDoorSQFnSymTextsx2
import Derived.Test.YtoiiaklmjpiejaaDoorSQFnSymTextsx7
namespace Go.Proofs.YtoiiaklmjpiejaaDoor.QFnSymTexts
open Go.Proofs.YtoiiaklmjpiejaaDoor.Qq
open Go.RowKit Go.Proofs.YtoiiaklmjpiejaaDoor.LibX Go.Proofs.YtoiiaklmjpiejaaDoor.LibE Go.Proofs.YtoiiaklmjpiejaaDoor.LibCB Go.Proofs.YtoiiaklmjpiejaaDoor.LibG Go.Proofs.YtoiiaklmjpiejaaDoor.LibSY Go.Proofs.YtoiiaklmjpiejaaDoorW.PrintWords Go.Proofs.YtoiiaklmjpiejaaDoorW.PrintLast Go.Proofs.YtoiiaklmjpiejaaDoorW.PrintMore
attribute [local go_sem] max2_int min2_int max_two min_two max_three min_three max_four min_four   -- for this text's walks alone
set_option maxHeartbeats 8000000
set_option maxRecDepth 100000
set_option linter.unusedVariables false
set_option linter.unusedSimpArgs false
attribute [local go_sem high] eqA54
def laws_sameSyms.l0:Nat → List (S54) → List (S54) → Int → Option (Bool)
 | 0,_,_,_ => none
 | k + 1,x0,x1,x5 => if x5 < (x0.length:Int) then (if 0 ≤ x5 then (if x5 < (x1.length:Int) then (if (!((((rd_T54 x0 x5).f0).toList) == (((rd_T54 x1 x5).f0).toList)) || (!(((rd_T54 x0 x5).f1) == ((rd_T54 x1 x5).f1)) || (!(((rd_T54 x0 x5).f2) == ((rd_T54 x1 x5).f2))))) = true then (some false) else (laws_sameSyms.l0 k x0 x1 (wrap64 (x5 + 1)))) else (none)) else (none)) else (some true)
def laws_sameSyms.f (k:Nat) (l0:List (S54)) (l1:List (S54)):Option (Bool):=if (l0.length:Int) = (l1.length:Int) then (laws_sameSyms.l0 k l0 l1 0) else (some false)
theorem laws_sameSyms.calls (k:Nat) (A0:Option Addr) (c0:Nat) (l0:List (S54)) (A1:Option Addr) (c1:Nat) (l1:List (S54)) (r:Bool) (w:World) (hr0:Kd.C k54 w A0 l0.length l0) (hc0:l0.length ≤ c0) (hr1:Kd.C k54 w A1 l1.length l1) (hc1:l1.length ≤ c1) (h:laws_sameSyms.f k l0 l1 = some r) :
  Calls Tryd.prog 23 #[.slice A0 l0.length c0,.slice A1 l1.length c1] w fun e w' => e = .returned (.bool r) ∧ Drawn0 w w':=by
 have hu54:=Tryd.underlying54
 have HR0:=Aside0.mk hr0
 have HC0:=Aside0.mk hc0
 clear hr0 hc0
 have HR1:=Aside0.mk hr1
 have HC1:=Aside0.mk hc1
 clear hr1 hc1
 have H:=h;unfold laws_sameSyms.f at H
 clear h
 by_cases c3:(l0.length:Int) = (l1.length:Int)
 ·rw [if_pos c3] at H
  have c3b0:((l0.length:Int) == (l1.length:Int)) = true:=beq_iff_eq.mpr c3
  have c3b1:((l0.length:Int) != (l1.length:Int)) = false:=bne_eq_false_iff_eq.mpr c3
  have c3b2:(l0.length == l1.length) = true:=by first | simpa using c3 | (simp at c3 ⊢;omega)
  clear c3
  have H':=Aside0.mk H
  clear H
  go_enter Tryd.func23,Tryd.ntmps23
  go_wp2
  repeat (go_quiet (fail);try go_wp2)
  go_loopg [5] k (fun kq v5 w' => ∃ (x5_1:Int),v5 = .int .i64 x5_1 ∧ Aside0 (laws_sameSyms.l0 kq l0 l1 x5_1 = some r) ∧ Aside0 (kq ≤ k) ∧ Drawn0 w w')
  case atStart => exact ⟨(0),q26_,H',⟨Nat.le_refl _⟩,q34_⟩
  clear H'
  try clear c1
  try clear c2
  try clear p2
  try clear c3
  try clear c3b0
  try clear c3b1
  try clear c3b2
  obtain ⟨x5_1,rfl,HA,HK1,⟨m1,rfl⟩⟩:=hrel
  cases gk with
  | zero => exact absurd HA.out (by simp [laws_sameSyms.l0])
  | succ k1 =>
   have H:=HA.out
   clear HA
   simp only [laws_sameSyms.l0] at H
   by_cases c4:x5_1 < (l0.length:Int)
   ·rw [if_pos c4] at H
    have c4b0:=decide_eq_true c4
    clear c4
    by_cases c5:0 ≤ x5_1
    rotate_left
    ·rw [if_neg c5] at H
     exact absurd H (by simp)
    rw [if_pos c5] at H
    have c5b0:=decide_eq_true c5
    clear c5
    by_cases c6:x5_1 < (l1.length:Int)
    rotate_left
    ·rw [if_neg c6] at H
     exact absurd H (by simp)
    rw [if_pos c6] at H
    have c6b0:=decide_eq_true c6
    clear c6
    by_cases c7:(!((((rd_T54 l0 x5_1).f0).toList) == (((rd_T54 l1 x5_1).f0).toList)) || (!(((rd_T54 l0 x5_1).f1) == ((rd_T54 l1 x5_1).f1)) || (!(((rd_T54 l0 x5_1).f2) == ((rd_T54 l1 x5_1).f2))))) = true
    ·rw [if_pos c7] at H
     have c7b0:(!((((rd_T54 l0 x5_1).f0).toList) == (((rd_T54 l1 x5_1).f0).toList)) || (!(((rd_T54 l0 x5_1).f1) == ((rd_T54 l1 x5_1).f1)) || (!(((rd_T54 l0 x5_1).f2) == ((rd_T54 l1 x5_1).f2))))) = true:=c7
     clear c7
     obtain rfl:=Option.some.inj H
     have p190:0 ≤ (x5_1:Int):=of_decide_eq_true q36_
     have q190:x5_1 < (l0.length:Int):=of_decide_eq_true q36_
     obtain ⟨ad190,e190,hx190_0,hx190_1,hx190_2⟩:=at_T54 HR0.out x5_1 p190 q190
     cases e190
     replace p190:=eq_true p190
     replace q190:=eq_true q190
     have p191:0 ≤ (x5_1:Int):=of_decide_eq_true q36_
     have q191:x5_1 < (l1.length:Int):=of_decide_eq_true q36_
     obtain ⟨ad191,e191,hx191_0,hx191_1,hx191_2⟩:=at_T54 HR1.out x5_1 p191 q191
     cases e191
     replace p191:=eq_true p191
     replace q191:=eq_true q191
     go_wp2
     repeat (go_quiet (fail);try go_wp2)
     go_ret
     exact ⟨q26_,q34_⟩
    rw [if_neg c7] at H
    have c7b0:(!((((rd_T54 l0 x5_1).f0).toList) == (((rd_T54 l1 x5_1).f0).toList)) || (!(((rd_T54 l0 x5_1).f1) == ((rd_T54 l1 x5_1).f1)) || (!(((rd_T54 l0 x5_1).f2) == ((rd_T54 l1 x5_1).f2))))) = false:=by simpa using c7
    clear c7
    have H':=Aside0.mk H
    clear H
    have p190:0 ≤ (x5_1:Int):=of_decide_eq_true q36_
    have q190:x5_1 < (l0.length:Int):=of_decide_eq_true q36_
    obtain ⟨ad190,e190,hx190_0,hx190_1,hx190_2⟩:=at_T54 HR0.out x5_1 p190 q190
    cases e190
    replace p190:=eq_true p190
    replace q190:=eq_true q190
    have p191:0 ≤ (x5_1:Int):=of_decide_eq_true q36_
    have q191:x5_1 < (l1.length:Int):=of_decide_eq_true q36_
    obtain ⟨ad191,e191,hx191_0,hx191_1,hx191_2⟩:=at_T54 HR1.out x5_1 p191 q191
    cases e191
    replace p191:=eq_true p191
    replace q191:=eq_true q191
    go_wp2
    repeat (go_quiet (fail);try go_wp2)
    go_roundg k1
    case measure => have:=HK1.out;omega
    case rel => exact ⟨(wrap64 (x5_1 + 1)),q26_,H',⟨by have:=HK1.out;omega⟩,q34_⟩
   rw [if_neg c4] at H
   have c4b0:=decide_eq_false c4
   clear c4
   obtain rfl:=Option.some.inj H
   go_wp2
   repeat (go_quiet (fail);try go_wp2)
   go_ret
   exact ⟨q26_,q34_⟩
 rw [if_neg c3] at H
 have c3b0:((l0.length:Int) == (l1.length:Int)) = false:=beq_eq_false_iff_ne.mpr c3
 have c3b1:((l0.length:Int) != (l1.length:Int)) = true:=bne_iff_ne.mpr c3
 have c3b2:(l0.length == l1.length) = false:=by first | simpa using c3 | (simp at c3 ⊢;omega)
 obtain rfl:=Option.some.inj H
 go_enter Tryd.func23,Tryd.ntmps23
 go_wp2
 repeat (go_quiet (fail);try go_wp2)
 go_ret
 exact ⟨q26_,q34_⟩
def spec_l1Rd_hurt.f (s0_0:List Int) (s0_1:Int) (a1:ByteArray):Option (ByteArray × Int):=(spec_l1Rd_below.f s0_0 s0_1 6).bind fun bt192 => (if bt192.1 = 1 then ((spec_l1Rd_below.f s0_0 bt192.2 (wrap64 ((a1.size:Int) + 1))).bind fun bt194 => (if 0 ≤ bt194.1 then (if bt194.1 ≤ (a1.size:Int) then (some (a1.extract 0 (bt194.1:Int).toNat,bt194.2)) else (none)) else (none))) else (if bt192.1 = 2 then (if (a1.size:Int) > 0 then ((spec_l1Rd_below.f s0_0 bt192.2 (a1.size:Int)).bind fun bt196 => (if 0 ≤ bt196.1 then (if bt196.1 ≤ (a1.size:Int) then ((some (([(⟨#[48]⟩:ByteArray),(⟨#[97]⟩:ByteArray),(⟨#[32]⟩:ByteArray),(⟨#[44]⟩:ByteArray),(⟨#[36]⟩:ByteArray),(⟨#[43]⟩:ByteArray)]:List ByteArray):List ByteArray)).bind fun y198 => ((spec_l1Rd_below.f s0_0 bt196.2 6).bind fun bt201 => (if 0 ≤ bt201.1 then (if bt201.1 < (y198.length:Int) then (if (a1.extract 0 (bt196.1:Int).toNat).size + (rdOf ByteArray.empty y198 bt201.1).size ≤ 9223372036854775807 then (if 0 ≤ (wrap64 (bt196.1 + 1)) then (if (wrap64 (bt196.1 + 1)) ≤ (a1.size:Int) then (if ((a1.extract 0 (bt196.1:Int).toNat) ++ (rdOf ByteArray.empty y198 bt201.1)).size + (a1.extract ((wrap64 (bt196.1 + 1)):Int).toNat a1.size).size ≤ 9223372036854775807 then (some (((a1.extract 0 (bt196.1:Int).toNat) ++ (rdOf ByteArray.empty y198 bt201.1)) ++ (a1.extract ((wrap64 (bt196.1 + 1)):Int).toNat a1.size),bt201.2)) else (none)) else (none)) else (none)) else (none)) else (none)) else (none)))) else (none)) else (none))) else (some (a1,bt192.2))) else (if bt192.1 = 3 then ((some (([(⟨#[32]⟩:ByteArray),(⟨#[48]⟩:ByteArray),(⟨#[120]⟩:ByteArray)]:List ByteArray):List ByteArray)).bind fun y204 => ((spec_l1Rd_below.f s0_0 bt192.2 3).bind fun bt207 => (if 0 ≤ bt207.1 then (if bt207.1 < (y204.length:Int) then (if a1.size + (rdOf ByteArray.empty y204 bt207.1).size ≤ 9223372036854775807 then (some (a1 ++ (rdOf ByteArray.empty y204 bt207.1),bt207.2)) else (none)) else (none)) else (none)))) else (some (a1,bt192.2)))))
def spec_l1Rd_hurt.T7:Bool × List (List Nat × List Nat):=(true,[([],[]),([],[]),([0,1],[0,1]),([],[]),([],[]),([4],[4]),([3,5],[3,5]),([6],[6]),([2,7],[2,7]),([],[]),([],[]),([10],[10]),([9,11],[9,11]),([8,12],[8,12]),([13,5,0,1,2,3,4,5,6,7,8,9,10,11,12,13],[13])])
def spec_l1Rd_hurt.B7:List Nat:=[0,0,3,0,0,16,56,120,255,0,0,1024,3584,8191,16383]
theorem spec_l1Rd_hurt.tab7:rtab .any (opsOf Tryd.f28 7) = spec_l1Rd_hurt.T7:=by kernel_rfl
theorem spec_l1Rd_hurt.bits7:waitsOk spec_l1Rd_hurt.T7.2 spec_l1Rd_hurt.B7 = true:=by kernel_rfl
theorem spec_l1Rd_hurt.calls (g:Nat) (s0_0:List Int) (s0_1:Int) (a1:ByteArray) (r1:ByteArray) (r2:Int) (w0 w:World) (hI:IsS62 w0 w g s0_0 s0_1) (hB:Below w0.heap.size w0 w) (h:spec_l1Rd_hurt.f s0_0 s0_1 a1 = some (r1,r2)) :
  Calls Tryd.prog 28 #[.pointer (some ⟨g,0,none⟩),.string a1] w fun e w' => e = .returned (.string r1) ∧ IsS62 w0 w' g s0_0 r2 ∧ Below w0.heap.size w0 w' ∧ KeepBut w w' g none:=by
 have HI0:=Aside0.mk hI
 have HK:=Aside0.mk (KeepBut.refl w g none)
 have HL:=Aside0.mk hB.size
 clear hI
 have HW0:=Aside0.mk hB.size
 have HB:=Aside0.mk hB
 clear hB
 have H:=h;unfold spec_l1Rd_hurt.f at H
 clear h
 replace H:=Option.bind_eq_some_iff.mp H
 obtain ⟨⟨t192,t193⟩,A30,H⟩:=H
 try dsimp -simprocs -eta only at H
 have A3:=Aside0.mk A30
 clear A30
 by_cases c4:t192 = 1
 ·rw [if_pos c4] at H
  have c4b0:(t192 == 1) = true:=beq_iff_eq.mpr c4
  have c4b1:(t192 != 1) = false:=bne_eq_false_iff_eq.mpr c4
  clear c4
  replace H:=Option.bind_eq_some_iff.mp H
  obtain ⟨⟨t194,t195⟩,A50,H⟩:=H
  try dsimp -simprocs -eta only at H
  have A5:=Aside0.mk A50
  clear A50
  by_cases c6:0 ≤ t194
  rotate_left
  ·rw [if_neg c6] at H
   exact absurd H (by simp)
  rw [if_pos c6] at H
  have c6b0:=eq_true c6
  have c6b1:=decide_eq_true c6
  clear c6
  by_cases c7:t194 ≤ (a1.size:Int)
  rotate_left
  ·rw [if_neg c7] at H
   exact absurd H (by simp)
  rw [if_pos c7] at H
  have c7b0:=eq_true c7
  have c7b1:=decide_eq_true c7
  clear c7
  simp only [Option.some.injEq,Prod.mk.injEq] at H
  obtain ⟨rfl,rfl⟩:=H
  go_enter Tryd.func28,Tryd.ntmps28
  go_wp2_with (first | ((with_reducible refine gate_callee (f:=30) rfl ?_);refine goesL_ (some 7) rfl rfl Tryd.func30 (by kernel_rfl) rfl #[.pointer (some ⟨g,0,none⟩),.int .i64 6] rfl q19_ ?_;(with_reducible refine (spec_l1Rd_below.calls g s0_0 s0_1 6 t192 t193 w0 _ ?side1 ?side2 A3.out).mono ?_);(case side1 => exact q49_);(case side2 => exact q40_);rintro e w8 ⟨rfl,hi,hb,hk⟩;refine ⟨_,rfl,?_⟩;have n0_:=Aside0.mk (KeepBut.trans q17_ hk (.inl rfl));have n1_:=Aside0.mk (hb);have n2_:=Aside0.mk (hi);clear HK;clear HB;clear HI0;have HK:=n0_;have HB:=n1_;have HI0:=n2_;clear n0_ n1_ n2_;(try clear hb);(try clear hk);(try clear hi)) | ((with_reducible refine gate_callee (f:=30) rfl ?_);refine goesL_ (some 15) rfl rfl Tryd.func30 (by kernel_rfl) rfl #[.pointer (some ⟨g,0,none⟩),.int .i64 (wrap64 ((a1.size:Int) + 1))] rfl (by (try simp only [List.map_toArray,List.map_cons,List.map_nil]);first | done | rfl | (simp only [List.length_drop,List.length_take];rfl) | (refine Eq.trans (b:=#[.pointer (some ⟨g,0,none⟩),.int .i64 (((a1.size:Int) + 1))]) rfl ?_;simp [wrap64] <;> omega)) ?_;(with_reducible refine (spec_l1Rd_below.calls g s0_0 t193 (wrap64 ((a1.size:Int) + 1)) t194 t195 w0 _ ?side1 ?side2 A5.out).mono ?_);(case side1 => exact q49_);(case side2 => exact q40_);rintro e w9 ⟨rfl,hi,hb,hk⟩;refine ⟨_,rfl,?_⟩;have n0_:=Aside0.mk (KeepBut.trans q17_ hk (.inl rfl));have n1_:=Aside0.mk (hb);have n2_:=Aside0.mk (hi);clear HK;clear HB;clear HI0;have HK:=n0_;have HB:=n1_;have HI0:=n2_;clear n0_ n1_ n2_;(try clear hb);(try clear hk);(try clear hi)))
  go_ret
  exact ⟨q21_,q16_,q7_,q17_⟩
 rw [if_neg c4] at H
 have c4b0:(t192 == 1) = false:=beq_eq_false_iff_ne.mpr c4
 have c4b1:(t192 != 1) = true:=bne_iff_ne.mpr c4
 by_cases c10:t192 = 2
 ·rw [if_pos c10] at H
  have c10b0:(t192 == 2) = true:=beq_iff_eq.mpr c10
  have c10b1:(t192 != 2) = false:=bne_eq_false_iff_eq.mpr c10
  clear c10
  by_cases c11:(a1.size:Int) > 0
  ·rw [if_pos c11] at H
   have c11b0:decide (0 < (a1.size:Int)) = true:=decide_eq_true c11
   have c11b1:decide (0 < a1.size) = true:=decide_eq_true (by omega)
   clear c11
   replace H:=Option.bind_eq_some_iff.mp H
   obtain ⟨⟨t196,t197⟩,A120,H⟩:=H
   try dsimp -simprocs -eta only at H
   have A12:=Aside0.mk A120
   clear A120
   by_cases c13:0 ≤ t196
   rotate_left
   ·rw [if_neg c13] at H
    exact absurd H (by simp)
   rw [if_pos c13] at H
   have c13b0:=eq_true c13
   have c13b1:=decide_eq_true c13
   clear c13
   by_cases c14:t196 ≤ (a1.size:Int)
   rotate_left
   ·rw [if_neg c14] at H
    exact absurd H (by simp)
   rw [if_pos c14] at H
   have c14b0:=eq_true c14
   have c14b1:=decide_eq_true c14
   clear c14
   obtain ⟨y198,hy198⟩:∃ y_:List ByteArray,y_ = (([(⟨#[48]⟩:ByteArray),(⟨#[97]⟩:ByteArray),(⟨#[32]⟩:ByteArray),(⟨#[44]⟩:ByteArray),(⟨#[36]⟩:ByteArray),(⟨#[43]⟩:ByteArray)]:List ByteArray)):=⟨_,rfl⟩
   replace H:((spec_l1Rd_below.f s0_0 t197 6).bind fun bt201 => (if 0 ≤ bt201.1 then (if bt201.1 < (y198.length:Int) then (if (a1.extract 0 (t196:Int).toNat).size + (rdOf ByteArray.empty y198 bt201.1).size ≤ 9223372036854775807 then (if 0 ≤ (wrap64 (t196 + 1)) then (if (wrap64 (t196 + 1)) ≤ (a1.size:Int) then (if ((a1.extract 0 (t196:Int).toNat) ++ (rdOf ByteArray.empty y198 bt201.1)).size + (a1.extract ((wrap64 (t196 + 1)):Int).toNat a1.size).size ≤ 9223372036854775807 then (some (((a1.extract 0 (t196:Int).toNat) ++ (rdOf ByteArray.empty y198 bt201.1)) ++ (a1.extract ((wrap64 (t196 + 1)):Int).toNat a1.size),bt201.2)) else (none)) else (none)) else (none)) else (none)) else (none)) else (none))) = some (r1,r2):=by first | (rw [hy198];exact H) | exact H
   have Ny198:=Aside0.mk hy198
   clear hy198
   replace H:=Option.bind_eq_some_iff.mp H
   obtain ⟨⟨t201,t202⟩,A150,H⟩:=H
   try dsimp -simprocs -eta only at H
   have A15:=Aside0.mk A150
   clear A150
   by_cases c16:0 ≤ t201
   rotate_left
   ·rw [if_neg c16] at H
    exact absurd H (by simp)
   rw [if_pos c16] at H
   have c16b0:=decide_eq_true c16
   clear c16
   by_cases c17:t201 < (y198.length:Int)
   rotate_left
   ·rw [if_neg c17] at H
    exact absurd H (by simp)
   rw [if_pos c17] at H
   have c17b0:=decide_eq_true c17
   clear c17
   by_cases c18:(a1.extract 0 (t196:Int).toNat).size + (rdOf ByteArray.empty y198 t201).size ≤ 9223372036854775807
   rotate_left
   ·rw [if_neg c18] at H
    exact absurd H (by simp)
   rw [if_pos c18] at H
   have c18b0:=eq_true c18
   (try (have c18b0e:=c18b0;simp only [ByteArray.size_append,ByteArray.size_extract,Nat.min_self,Nat.sub_zero] at c18b0e))
   (try (have c18b0f:=c18b0e;simp only [show min (t196:Int).toNat a1.size = (t196:Int).toNat from Nat.min_eq_left (by have q_:t196 ≤ (a1.size:Int):=of_decide_eq_true q36_;omega)] at c18b0f))
   have c18b1:=decide_eq_true c18
   (try (have c18b1e:=c18b1;simp only [ByteArray.size_append,ByteArray.size_extract,Nat.min_self,Nat.sub_zero] at c18b1e))
   (try (have c18b1f:=c18b1e;simp only [show min (t196:Int).toNat a1.size = (t196:Int).toNat from Nat.min_eq_left (by have q_:t196 ≤ (a1.size:Int):=of_decide_eq_true q36_;omega)] at c18b1f))
   try have c18b2:(9223372036854775807 < (a1.extract 0 (t196:Int).toNat).size + (rdOf ByteArray.empty y198 t201).size) = False:=eq_false (Nat.not_lt.2 c18)
   (try (have c18b2e:=c18b2;simp only [ByteArray.size_append,ByteArray.size_extract,Nat.min_self,Nat.sub_zero] at c18b2e))
   (try (first | (have c18b2p:=eq_true (of_decide_eq_true c18b2e)) | (have c18b2p:=eq_false (of_decide_eq_false c18b2e))))
   (try (have c18b2f:=c18b2e;simp only [show min (t196:Int).toNat a1.size = (t196:Int).toNat from Nat.min_eq_left (by have q_:t196 ≤ (a1.size:Int):=of_decide_eq_true q36_;omega)] at c18b2f))
   obtain ⟨ji19,hji19⟩:∃ j_:Int,(wrap64 (t196 + 1)) = j_:=⟨_,rfl⟩
   (first | rewrite [hji19] at H | simp only [hji19] at H)
   (try rw [hji19] at A3)
   (try rw [hji19] at A12)
   (try rw [hji19] at A15)
   have hji19w:(IntKind.i64.wrap (t196 + 1)) = ji19:=(i64_w _).trans hji19
   by_cases c20:0 ≤ (ji19)
   rotate_left
   ·rw [if_neg c20] at H
    exact absurd H (by simp)
   rw [if_pos c20] at H
   have c20b0:=eq_true c20
   have c20b1:=decide_eq_true c20
   clear c20
   by_cases c21:(ji19) ≤ (a1.size:Int)
   rotate_left
   ·rw [if_neg c21] at H
    exact absurd H (by simp)
   rw [if_pos c21] at H
   have c21b0:=eq_true c21
   have c21b1:=decide_eq_true c21
   clear c21
   by_cases c22:((a1.extract 0 (t196:Int).toNat) ++ (rdOf ByteArray.empty y198 t201)).size + (a1.extract ((ji19):Int).toNat a1.size).size ≤ 9223372036854775807
   rotate_left
   ·rw [if_neg c22] at H
    exact absurd H (by simp)
   rw [if_pos c22] at H
   have c22b0:=eq_true c22
   (try (have c22b0e:=c22b0;simp only [ByteArray.size_append,ByteArray.size_extract,Nat.min_self,Nat.sub_zero] at c22b0e))
   (try (have c22b0f:=c22b0e;simp only [show min (t196:Int).toNat a1.size = (t196:Int).toNat from Nat.min_eq_left (by have q_:t196 ≤ (a1.size:Int):=of_decide_eq_true q36_;omega)] at c22b0f))
   have c22b1:=decide_eq_true c22
   (try (have c22b1e:=c22b1;simp only [ByteArray.size_append,ByteArray.size_extract,Nat.min_self,Nat.sub_zero] at c22b1e))
   (try (have c22b1f:=c22b1e;simp only [show min (t196:Int).toNat a1.size = (t196:Int).toNat from Nat.min_eq_left (by have q_:t196 ≤ (a1.size:Int):=of_decide_eq_true q36_;omega)] at c22b1f))
   try have c22b2:(9223372036854775807 < ((a1.extract 0 (t196:Int).toNat) ++ (rdOf ByteArray.empty y198 t201)).size + (a1.extract ((ji19):Int).toNat a1.size).size) = False:=eq_false (Nat.not_lt.2 c22)
   (try (have c22b2e:=c22b2;simp only [ByteArray.size_append,ByteArray.size_extract,Nat.min_self,Nat.sub_zero] at c22b2e))
   (try (first | (have c22b2p:=eq_true (of_decide_eq_true c22b2e)) | (have c22b2p:=eq_false (of_decide_eq_false c22b2e))))
   (try (have c22b2f:=c22b2e;simp only [show min (t196:Int).toNat a1.size = (t196:Int).toNat from Nat.min_eq_left (by have q_:t196 ≤ (a1.size:Int):=of_decide_eq_true q36_;omega)] at c22b2f))
   simp only [Option.some.injEq,Prod.mk.injEq] at H
   obtain ⟨rfl,rfl⟩:=H
   go_enter Tryd.func28,Tryd.ntmps28
   try go_wp2_with (first | ((with_reducible refine gate_callee (f:=30) rfl ?_);refine goesL_ (some 7) rfl rfl Tryd.func30 (by kernel_rfl) rfl #[.pointer (some ⟨g,0,none⟩),.int .i64 6] rfl q19_ ?_;(with_reducible refine (spec_l1Rd_below.calls g s0_0 s0_1 6 t192 t193 w0 _ ?side1 ?side2 A3.out).mono ?_);(case side1 => exact q49_);(case side2 => exact q40_);rintro e w23 ⟨rfl,hi,hb,hk⟩;refine ⟨_,rfl,?_⟩;have n0_:=Aside0.mk (KeepBut.trans q17_ hk (.inl rfl));have n1_:=Aside0.mk (hb);have n2_:=Aside0.mk (hi);clear HK;clear HB;clear HI0;have HK:=n0_;have HB:=n1_;have HI0:=n2_;clear n0_ n1_ n2_;(try clear hb);(try clear hk);(try clear hi)) | ((with_reducible refine gate_callee (f:=30) rfl ?_);refine goesL_ (some 25) rfl rfl Tryd.func30 (by kernel_rfl) rfl #[.pointer (some ⟨g,0,none⟩),.int .i64 (a1.size:Int)] rfl q19_ ?_;(with_reducible refine (spec_l1Rd_below.calls g s0_0 t193 (a1.size:Int) t196 t197 w0 _ ?side1 ?side2 A12.out).mono ?_);(case side1 => exact q49_);(case side2 => exact q40_);rintro e w24 ⟨rfl,hi,hb,hk⟩;refine ⟨_,rfl,?_⟩;have n0_:=Aside0.mk (KeepBut.trans q17_ hk (.inl rfl));have n1_:=Aside0.mk (hb);have n2_:=Aside0.mk (hi);clear HK;clear HB;clear HI0;have HK:=n0_;have HB:=n1_;have HI0:=n2_;clear n0_ n1_ n2_;(try clear hb);(try clear hk);(try clear hi)))
   have pi203:(0 ≤ (t201:Int)) = True:=eq_true (of_decide_eq_true q36_)
   have qi203:(t201 < (y198.length:Int)) = True:=eq_true (of_decide_eq_true q36_)
   have n0_:=Aside0.mk (IsS62.drew HI0.out)
   have n1_:=Aside0.mk (keep_drew HK.out)
   have n2_:=Aside0.mk (below_drew1 HB.out)
   clear HI0
   clear HK
   clear HB
   have HI0:=n0_
   have HK:=n1_
   have HB:=n2_
   clear n0_ n1_ n2_
   refine start_ (n:=15) (S:=fun w' => True) (ds:=[]) #[false,false,false,false,false,false,false,false,false,false,false,false,false,false,false] (by kernel_rfl) rfl rfl trivial (fun hHeld => ?_);refine with_tabW spec_l1Rd_hurt.tab7 spec_l1Rd_hurt.bits7 (fun HT_ HW_ => ?_)
   generalize w24.drew = w25 at HI0 HK HB hHeld ⊢
   refine pure_ (i:=0) (N:=some 26) (v:=?_) (a':=?_) #[true,false,false,false,false,false,false,false,false,false,false,false,false,false,false] rfl rfl (any_of HT_.out (by kernel_rfl)) (fun _ _ _ h => h) (Or.inl ⟨by rfl,?_⟩) ?_ ?_
   rotate_left
   ·intro w'
    go_simp
    with_reducible rfl
   rotate_left
   ·simp only [Act.put,List.setIfInBounds_toArray,List.set_cons_zero,List.set_cons_succ,i64_w,i32_w]
    rfl
   refine pure_ (i:=1) (N:=some 27) (v:=?_) (a':=?_) #[true,true,false,false,false,false,false,false,false,false,false,false,false,false,false] rfl rfl (any_of HT_.out (by kernel_rfl)) (fun _ _ _ h => h) (Or.inl ⟨by rfl,?_⟩) ?_ ?_
   rotate_left
   ·intro w'
    go_simp
    with_reducible rfl
   rotate_left
   ·simp only [Act.put,List.setIfInBounds_toArray,List.set_cons_zero,List.set_cons_succ,i64_w,i32_w]
    rfl
   refine pure_ (i:=4) (N:=some 30) (v:=?_) (a':=?_) #[true,true,false,false,true,false,false,false,false,false,false,false,false,false,false] rfl rfl (any_of HT_.out (by kernel_rfl)) (fun _ _ _ h => h) (Or.inl ⟨by rfl,?_⟩) ?_ ?_
   rotate_left
   ·intro w'
    go_simp
    with_reducible rfl
   rotate_left
   ·simp only [Act.put,List.setIfInBounds_toArray,List.set_cons_zero,List.set_cons_succ,i64_w,i32_w]
    rfl
   refine pure_ (i:=9) (N:=some 35) (v:=?_) (a':=?_) #[true,true,false,false,true,false,false,false,false,true,false,false,false,false,false] rfl rfl (any_of HT_.out (by kernel_rfl)) (fun _ _ _ h => h) (Or.inl ⟨by rfl,?_⟩) ?_ ?_
   rotate_left
   ·intro w'
    go_simp
    with_reducible rfl
   rotate_left
   ·simp only [Act.put,List.setIfInBounds_toArray,List.set_cons_zero,List.set_cons_succ,i64_w,i32_w]
    rfl
   refine pure_ (i:=10) (N:=some 36) (v:=?_) (a':=?_) #[true,true,false,false,true,false,false,false,false,true,true,false,false,false,false] rfl rfl (any_of HT_.out (by kernel_rfl)) (fun _ _ _ h => h) (Or.inl ⟨by rfl,?_⟩) ?_ ?_
   rotate_left
   ·intro w'
    go_simp
    with_reducible rfl
   rotate_left
   ·simp only [Act.put,List.setIfInBounds_toArray,List.set_cons_zero,List.set_cons_succ,i64_w,i32_w]
    rfl
   refine inv_at [2,3,5,6,7,8,11,12,13,14] (fun a0_ b a w' => ∃ (v199:Value) (adz_v199:Addr) (m6_:Value),a = putSel a0_ b [(2,28,.string (a1.extract 0 (t196:Int).toNat)),(3,29,v199),(5,31,.int .i64 t201),(6,32,m6_),(7,33,.string (rdOf ByteArray.empty y198 t201)),(8,34,.string ((a1.extract 0 (t196:Int).toNat) ++ (rdOf ByteArray.empty y198 t201))),(11,37,.int .i64 ji19),(12,38,.string (a1.extract ((ji19):Int).toNat a1.size)),(13,39,.string (((a1.extract 0 (t196:Int).toNat) ++ (rdOf ByteArray.empty y198 t201)) ++ (a1.extract ((ji19):Int).toNat a1.size))),(14,4,.string (((a1.extract 0 (t196:Int).toNat) ++ (rdOf ByteArray.empty y198 t201)) ++ (a1.extract ((ji19):Int).toNat a1.size)))] ∧ (b 5 = false → IsS62 w0 w' g s0_0 t197) ∧ (KeepBut w w' g none) ∧ (Below w0.heap.size w0 w') ∧ (b 3 = true → Kd.R Kd.string 9 w' w.heap.size (fun _ => True) v199 y198) ∧ (b 3 = true → ∃ c_,(v199:Value) = .slice (some adz_v199) y198.length c_) ∧ (b 5 = true → IsS62 w0 w' g s0_0 t202) ∧ (b 6 = true → (m6_:Value) = .pointer (some (adz_v199.add (t201).toNat)))) HT_.out HW_.out (by kernel_rfl) (by kernel_rfl) ?_ ?_ ?_
   ·exact ⟨.bool false,⟨0,0,none⟩,.bool false,by simp only [putSel,Bool.false_eq_true,if_false],fun _ => HI0.out,HK.out,HB.out,fun h_ => absurd h_ (by decide),fun h_ => absurd h_ (by decide),fun h_ => absurd h_ (by decide),fun h_ => absurd h_ (by decide)⟩
   ·skip
    clear HB HI0 HK
    refine steps_cons ?_ ?_
    ·rintro b a w' ⟨v199,adz_v199,m6_,ha,Q_HI0,Q_HK,Q_HB,Q_HO200,Q_HA_HO200,Q_HI0_e5,Q_X6_⟩ hb_ hon hoff
     refine ⟨_,rfl,fun K hK => ?_⟩
     have e26:a.tmps[26]? = some (.string a1):=by rw [ha];exact (putSel_off rfl).trans rfl
     have e27:a.tmps[27]? = some (.int .i64 t196):=by rw [ha];exact (putSel_off rfl).trans rfl
     replace ha:=Aside0.mk ha
     have HK:=Aside0.mk Q_HK
     have HB:=Aside0.mk Q_HB
     refine value_ (w1:=w') (v:=.string (a1.extract 0 (t196:Int).toNat)) (by rfl) rfl ?_ ?_
     ·go_simp
      (try simp only [i64_w])
      try rfl
     refine hK.out _ _ ⟨v199,adz_v199,m6_,(by rw [ha.out];exact putSel_upk 0 hb_ rfl rfl rfl),Q_HI0,Q_HK,Q_HB,Q_HO200,Q_HA_HO200,Q_HI0_e5,Q_X6_⟩
    refine steps_cons ?_ ?_
    ·rintro b a w' ⟨v199,adz_v199,m6_,ha,Q_HI0,Q_HK,Q_HB,Q_HO200,Q_HA_HO200,Q_HI0_e5,Q_X6_⟩ hb_ hon hoff
     refine ⟨_,rfl,fun K hK => ?_⟩
     replace ha:=Aside0.mk ha
     have HK:=Aside0.mk Q_HK
     have HB:=Aside0.mk Q_HB
     refine Kd.R_lit_step Kd.string _ 9 ?hg (N:=29) ?hd (xs:=([(⟨#[48]⟩:ByteArray),(⟨#[97]⟩:ByteArray),(⟨#[32]⟩:ByteArray),(⟨#[44]⟩:ByteArray),(⟨#[36]⟩:ByteArray),(⟨#[43]⟩:ByteArray)]:List ByteArray)) (inner:=[.string (⟨#[48]⟩:ByteArray),.string (⟨#[97]⟩:ByteArray),.string (⟨#[32]⟩:ByteArray),.string (⟨#[44]⟩:ByteArray),.string (⟨#[36]⟩:ByteArray),.string (⟨#[43]⟩:ByteArray)]) (ok:=fun _ => True) (okp:=fun _ => True) ?hr ?hp (fun _ hk => hk) trivial (Below.refl _ _) (Nat.le_refl _) (by simp) ?_;(case hd => rfl);(case hg => rfl);(case hr => exact q51_);(case hp => exact (Reps.one (show Kd.M Kd.string _ _ _ (⟨#[48]⟩:ByteArray) [.string (⟨#[48]⟩:ByteArray)] from rfl) (Reps.one (show Kd.M Kd.string _ _ _ (⟨#[97]⟩:ByteArray) [.string (⟨#[97]⟩:ByteArray)] from rfl) (Reps.one (show Kd.M Kd.string _ _ _ (⟨#[32]⟩:ByteArray) [.string (⟨#[32]⟩:ByteArray)] from rfl) (Reps.one (show Kd.M Kd.string _ _ _ (⟨#[44]⟩:ByteArray) [.string (⟨#[44]⟩:ByteArray)] from rfl) (Reps.one (show Kd.M Kd.string _ _ _ (⟨#[36]⟩:ByteArray) [.string (⟨#[36]⟩:ByteArray)] from rfl) (Reps.one (show Kd.M Kd.string _ _ _ (⟨#[43]⟩:ByteArray) [.string (⟨#[43]⟩:ByteArray)] from rfl) (Reps.none _ _))))))))
     intro v199 w26 ho27 hb hg_ hnew_
     clear hg_ hnew_
     (first | rw [← Ny198.out] at ho27 | (simp only [Int.reduceToNat] at ho27;rw [← Ny198.out] at ho27))
     have n0_:=Aside0.mk (Kd.R_lower ho27 (keep_size (w:=w) (g:=g) (row:=none) q17_))
     have n2_:=Aside0.mk (KeepBut.trans q17_ (KeepBut.of_below hb g none) (.inl rfl))
     have n3_:=Aside0.mk (below_step q20_ hb)
     have z_HI0:=fun (h0_:b 5 = false) => (show IsS62 w0 w26 g s0_0 t197 from by first | exact (IsS62.below (by repeat (first | (with_reducible first | exact (Q_HI0 h0_) | apply IsS62.alloc | apply IsS62.drewN | apply IsS62.drew | apply IsS62.set_1) | exact (Q_HI0 h0_))) hb))
     have z_HI0_e5:=fun (h0_:b 5 = true) => (show IsS62 w0 w26 g s0_0 t202 from by first | exact (IsS62.below (by repeat (first | (with_reducible first | exact (Q_HI0_e5 h0_) | apply IsS62.alloc | apply IsS62.drewN | apply IsS62.drew | apply IsS62.set_1) | exact (Q_HI0_e5 h0_))) hb))
     clear HK
     clear HB
     have HO200:=n0_
     have HK:=n2_
     have HB:=n3_
     clear n0_ n2_ n3_
     clear hb ho27
     obtain ⟨Ao28,co28,eo28⟩:=Kd.R_slice HO200.out
     subst eo28
     obtain ⟨ado28,fo28,_⟩:=Kd.at_string (Kd.R_reads' HO200.out).2.2 0 (by decide) (by rw [Ny198.out];simp)
     cases fo28
     refine hK.out _ _ ⟨.slice (some ado28) y198.length co28,ado28,m6_,(by rw [ha.out];exact putSel_upk 1 hb_ rfl rfl rfl),z_HI0,q17_,q20_,fun _ => (by (with_reducible repeat (first | apply Kd.R_alloc | apply Kd.R_drewN | apply Kd.R_drew));exact HO200.out),fun _ => ⟨_,rfl⟩,z_HI0_e5,fun h0_ => absurd ((hoff 6 (by kernel_rfl)).symm.trans h0_) (by decide)⟩
    refine steps_cons ?_ ?_
    ·rintro b a w' ⟨v199,adz_v199,m6_,ha,Q_HI0,Q_HK,Q_HB,Q_HO200,Q_HA_HO200,Q_HI0_e5,Q_X6_⟩ hb_ hon hoff
     refine ⟨_,rfl,fun K hK => ?_⟩
     have e30:a.tmps[30]? = some (.pointer (some ⟨g,0,none⟩)):=by rw [ha];exact (putSel_off rfl).trans rfl
     replace ha:=Aside0.mk ha
     have HI0:=Aside0.mk (Q_HI0 hb_)
     have HK:=Aside0.mk Q_HK
     have HB:=Aside0.mk Q_HB
     refine goes_ Tryd.func30 (by kernel_rfl) rfl #[.pointer (some ⟨g,0,none⟩),.int .i64 6] (by rfl) rfl rfl (by first | (simp only [List.map_toArray,List.map_cons,List.map_nil,Act.eval,Array.getD_eq_getD_getElem?,Option.getD_some,e30];done) | (simp only [List.map_toArray,List.map_cons,List.map_nil,Act.eval,Array.getD_eq_getD_getElem?,Option.getD_some,e30];rfl)) ?_
     with_reducible refine (spec_l1Rd_below.calls g s0_0 t197 6 t201 t202 w0 _ ?side1 ?side2 A15.out).mono ?_
     (case side1 => exact q49_)
     (case side2 => exact q40_)
     rintro e w26 ⟨rfl,hi,hb,hk⟩
     refine ⟨_,rfl,?_⟩
     have n0_:=Aside0.mk (KeepBut.trans q17_ hk (.inl rfl))
     have n1_:=Aside0.mk (hb)
     have n2_:=Aside0.mk (hi)
     have z_HO200:=fun (h0_:b 3 = true) => (show Kd.R Kd.string 9 w26 w.heap.size (fun _ => True) v199 y198 from by first | exact (Kd.R_mono (Kd.R_keep (IsS62.apart (show IsS62 w0 _ g s0_0 t197 from by repeat (first | (with_reducible first | exact HI0.out | apply IsS62.alloc | apply IsS62.drewN | apply IsS62.drew | apply IsS62.set_1) | exact HI0.out)) (by (with_reducible repeat (first | apply Kd.R_alloc | apply Kd.R_drewN | apply Kd.R_drew));exact (Q_HO200 h0_)) (by decide)) hk (fun _ h => h.2)) (fun _ h => h.1)) | exact Kd.R_mono (Kd.R_mono (Kd.R_keep (IsS62.apart (show IsS62 w0 _ g s0_0 t197 from by repeat (first | (with_reducible first | exact HI0.out | apply IsS62.alloc | apply IsS62.drewN | apply IsS62.drew | apply IsS62.set_1) | exact HI0.out)) (by (with_reducible repeat (first | apply Kd.R_alloc | apply Kd.R_drewN | apply Kd.R_drew));exact (Q_HO200 h0_)) (by decide)) hk (fun _ h => h.2)) (fun _ h => h.1)) (fun _ h_ => by first | trivial | exact h_ | exact h_.1))
     clear HK
     clear HB
     clear HI0
     have HK:=n0_
     have HB:=n1_
     have HI0:=n2_
     clear n0_ n1_ n2_
     (try clear hb)
     (try clear hb2)
     (try clear hk)
     (try clear hi)
     refine hK.out _ _ ⟨v199,adz_v199,m6_,(by rw [ha.out];exact putSel_upk 2 hb_ rfl rfl rfl),fun h0_ => absurd ((up_self b 5).symm.trans h0_) (by decide),q17_,q7_,z_HO200,Q_HA_HO200,fun _ => q16_,fun h0_ => absurd ((hoff 6 (by kernel_rfl)).symm.trans h0_) (by decide)⟩
    refine steps_cons ?_ ?_
    ·rintro b a w' ⟨v199,adz_v199,m6_,ha,Q_HI0,Q_HK,Q_HB,Q_HO200,Q_HA_HO200,Q_HI0_e5,Q_X6_⟩ hb_ hon hoff
     refine ⟨_,rfl,fun K hK => ?_⟩
     have e29:a.tmps[29]? = some (v199):=by rw [ha];exact putSel_on (e:=(3,29,v199)) 1 rfl rfl (hon 3 (by kernel_rfl)) rfl
     have e31:a.tmps[31]? = some (.int .i64 t201):=by rw [ha];exact putSel_on (e:=(5,31,.int .i64 t201)) 2 rfl rfl (hon 5 (by kernel_rfl)) rfl
     replace ha:=Aside0.mk ha
     have HK:=Aside0.mk Q_HK
     have HB:=Aside0.mk Q_HB
     have HO200:=Aside0.mk (Q_HO200 (hon 3 (by kernel_rfl)))
     have HA_HO200:=Aside0.mk (Q_HA_HO200 (hon 3 (by kernel_rfl)))
     have HI0:=Aside0.mk (Q_HI0_e5 (hon 5 (by kernel_rfl)))
     obtain ⟨c_,hv_⟩:=HA_HO200.out
     rw [hv_] at e29
     refine value_ (w1:=w') (v:=.pointer (some (adz_v199.add (t201).toNat))) (by rfl) rfl ?_ ?_
     ·go_simp
      (try simp only [i64_w])
      try rfl
     refine hK.out _ _ ⟨v199,adz_v199,(.pointer (some (adz_v199.add (t201).toNat))),(by rw [ha.out];exact putSel_upk 3 hb_ rfl rfl rfl),fun h0_ => absurd ((hon 5 (by kernel_rfl)).symm.trans h0_) (by decide),Q_HK,Q_HB,Q_HO200,Q_HA_HO200,Q_HI0_e5,fun _ => rfl⟩
    refine steps_cons ?_ ?_
    ·rintro b a w' ⟨v199,adz_v199,m6_,ha,Q_HI0,Q_HK,Q_HB,Q_HO200,Q_HA_HO200,Q_HI0_e5,Q_X6_⟩ hb_ hon hoff
     refine ⟨_,rfl,fun K hK => ?_⟩
     have e32:a.tmps[32]? = some (m6_):=by rw [ha];exact putSel_on (e:=(6,32,m6_)) 3 rfl rfl (hon 6 (by kernel_rfl)) rfl
     rw [Q_X6_ (hon 6 (by kernel_rfl))] at e32
     replace ha:=Aside0.mk ha
     have HK:=Aside0.mk Q_HK
     have HB:=Aside0.mk Q_HB
     have HO200:=Aside0.mk (Q_HO200 (hon 3 (by kernel_rfl)))
     have HA_HO200:=Aside0.mk (Q_HA_HO200 (hon 3 (by kernel_rfl)))
     have HI0:=Aside0.mk (Q_HI0_e5 (hon 5 (by kernel_rfl)))
     obtain ⟨c_,hv_⟩:=HA_HO200.out
     have hF_:=HO200.out
     rw [hv_] at hF_
     obtain ⟨ad_,ea_,hx_⟩:=Kd.at_string (Kd.R_reads' hF_).2.2 t201 (of_eq_true pi203) (of_eq_true qi203)
     cases ea_
     refine value_ (w1:=w') (v:=.string (rdOf ByteArray.empty y198 t201)) (by rfl) rfl ?_ ?_
     ·go_simp
      (try simp only [i64_w])
      try rfl
     refine hK.out _ _ ⟨v199,adz_v199,m6_,(by rw [ha.out];exact putSel_upk 4 hb_ rfl rfl rfl),fun h0_ => absurd ((hon 5 (by kernel_rfl)).symm.trans h0_) (by decide),Q_HK,Q_HB,Q_HO200,Q_HA_HO200,Q_HI0_e5,Q_X6_⟩
    refine steps_cons ?_ ?_
    ·rintro b a w' ⟨v199,adz_v199,m6_,ha,Q_HI0,Q_HK,Q_HB,Q_HO200,Q_HA_HO200,Q_HI0_e5,Q_X6_⟩ hb_ hon hoff
     refine ⟨_,rfl,fun K hK => ?_⟩
     have e28:a.tmps[28]? = some (.string (a1.extract 0 (t196:Int).toNat)):=by rw [ha];exact putSel_on (e:=(2,28,.string (a1.extract 0 (t196:Int).toNat))) 0 rfl rfl (hon 2 (by kernel_rfl)) rfl
     have e33:a.tmps[33]? = some (.string (rdOf ByteArray.empty y198 t201)):=by rw [ha];exact putSel_on (e:=(7,33,.string (rdOf ByteArray.empty y198 t201))) 4 rfl rfl (hon 7 (by kernel_rfl)) rfl
     replace ha:=Aside0.mk ha
     have HK:=Aside0.mk Q_HK
     have HB:=Aside0.mk Q_HB
     have HO200:=Aside0.mk (Q_HO200 (hon 3 (by kernel_rfl)))
     have HA_HO200:=Aside0.mk (Q_HA_HO200 (hon 3 (by kernel_rfl)))
     have HI0:=Aside0.mk (Q_HI0_e5 (hon 5 (by kernel_rfl)))
     refine value_ (w1:=w') (v:=.string ((a1.extract 0 (t196:Int).toNat) ++ (rdOf ByteArray.empty y198 t201))) (by rfl) rfl ?_ ?_
     ·go_simp
      (try simp only [i64_w])
      try rfl
     refine hK.out _ _ ⟨v199,adz_v199,m6_,(by rw [ha.out];exact putSel_upk 5 hb_ rfl rfl rfl),fun h0_ => absurd ((hon 5 (by kernel_rfl)).symm.trans h0_) (by decide),Q_HK,Q_HB,Q_HO200,Q_HA_HO200,Q_HI0_e5,Q_X6_⟩
    refine steps_cons ?_ ?_
    ·rintro b a w' ⟨v199,adz_v199,m6_,ha,Q_HI0,Q_HK,Q_HB,Q_HO200,Q_HA_HO200,Q_HI0_e5,Q_X6_⟩ hb_ hon hoff
     refine ⟨_,rfl,fun K hK => ?_⟩
     have e36:a.tmps[36]? = some (.int .i64 t196):=by rw [ha];exact (putSel_off rfl).trans rfl
     replace ha:=Aside0.mk ha
     have HK:=Aside0.mk Q_HK
     have HB:=Aside0.mk Q_HB
     refine value_ (w1:=w') (v:=.int .i64 ji19) (by rfl) rfl ?_ ?_
     ·go_simp
      (try simp only [i64_w])
      try rfl
     refine hK.out _ _ ⟨v199,adz_v199,m6_,(by rw [ha.out];exact putSel_upk 6 hb_ rfl rfl rfl),Q_HI0,Q_HK,Q_HB,Q_HO200,Q_HA_HO200,Q_HI0_e5,Q_X6_⟩
    refine steps_cons ?_ ?_
    ·rintro b a w' ⟨v199,adz_v199,m6_,ha,Q_HI0,Q_HK,Q_HB,Q_HO200,Q_HA_HO200,Q_HI0_e5,Q_X6_⟩ hb_ hon hoff
     refine ⟨_,rfl,fun K hK => ?_⟩
     have e35:a.tmps[35]? = some (.string a1):=by rw [ha];exact (putSel_off rfl).trans rfl
     have e37:a.tmps[37]? = some (.int .i64 ji19):=by rw [ha];exact putSel_on (e:=(11,37,.int .i64 ji19)) 6 rfl rfl (hon 11 (by kernel_rfl)) rfl
     replace ha:=Aside0.mk ha
     have HK:=Aside0.mk Q_HK
     have HB:=Aside0.mk Q_HB
     refine value_ (w1:=w') (v:=.string (a1.extract ((ji19):Int).toNat a1.size)) (by rfl) rfl ?_ ?_
     ·go_simp
      (try simp only [i64_w])
      try rfl
     refine hK.out _ _ ⟨v199,adz_v199,m6_,(by rw [ha.out];exact putSel_upk 7 hb_ rfl rfl rfl),Q_HI0,Q_HK,Q_HB,Q_HO200,Q_HA_HO200,Q_HI0_e5,Q_X6_⟩
    refine steps_cons ?_ ?_
    ·rintro b a w' ⟨v199,adz_v199,m6_,ha,Q_HI0,Q_HK,Q_HB,Q_HO200,Q_HA_HO200,Q_HI0_e5,Q_X6_⟩ hb_ hon hoff
     refine ⟨_,rfl,fun K hK => ?_⟩
     have e34:a.tmps[34]? = some (.string ((a1.extract 0 (t196:Int).toNat) ++ (rdOf ByteArray.empty y198 t201))):=by rw [ha];exact putSel_on (e:=(8,34,.string ((a1.extract 0 (t196:Int).toNat) ++ (rdOf ByteArray.empty y198 t201)))) 5 rfl rfl (hon 8 (by kernel_rfl)) rfl
     have e38:a.tmps[38]? = some (.string (a1.extract ((ji19):Int).toNat a1.size)):=by rw [ha];exact putSel_on (e:=(12,38,.string (a1.extract ((ji19):Int).toNat a1.size))) 7 rfl rfl (hon 12 (by kernel_rfl)) rfl
     replace ha:=Aside0.mk ha
     have HK:=Aside0.mk Q_HK
     have HB:=Aside0.mk Q_HB
     have HO200:=Aside0.mk (Q_HO200 (hon 3 (by kernel_rfl)))
     have HA_HO200:=Aside0.mk (Q_HA_HO200 (hon 3 (by kernel_rfl)))
     have HI0:=Aside0.mk (Q_HI0_e5 (hon 5 (by kernel_rfl)))
     refine value_ (w1:=w') (v:=.string (((a1.extract 0 (t196:Int).toNat) ++ (rdOf ByteArray.empty y198 t201)) ++ (a1.extract ((ji19):Int).toNat a1.size))) (by rfl) rfl ?_ ?_
     ·go_simp
      (try simp only [i64_w])
      try rfl
     refine hK.out _ _ ⟨v199,adz_v199,m6_,(by rw [ha.out];exact putSel_upk 8 hb_ rfl rfl rfl),fun h0_ => absurd ((hon 5 (by kernel_rfl)).symm.trans h0_) (by decide),Q_HK,Q_HB,Q_HO200,Q_HA_HO200,Q_HI0_e5,Q_X6_⟩
    refine steps_cons ?_ ?_
    ·rintro b a w' ⟨v199,adz_v199,m6_,ha,Q_HI0,Q_HK,Q_HB,Q_HO200,Q_HA_HO200,Q_HI0_e5,Q_X6_⟩ hb_ hon hoff
     refine ⟨_,rfl,fun K hK => ?_⟩
     have e39:a.tmps[39]? = some (.string (((a1.extract 0 (t196:Int).toNat) ++ (rdOf ByteArray.empty y198 t201)) ++ (a1.extract ((ji19):Int).toNat a1.size))):=by rw [ha];exact putSel_on (e:=(13,39,.string (((a1.extract 0 (t196:Int).toNat) ++ (rdOf ByteArray.empty y198 t201)) ++ (a1.extract ((ji19):Int).toNat a1.size)))) 8 rfl rfl (hon 13 (by kernel_rfl)) rfl
     replace ha:=Aside0.mk ha
     have HK:=Aside0.mk Q_HK
     have HB:=Aside0.mk Q_HB
     have HO200:=Aside0.mk (Q_HO200 (hon 3 (by kernel_rfl)))
     have HA_HO200:=Aside0.mk (Q_HA_HO200 (hon 3 (by kernel_rfl)))
     have HI0:=Aside0.mk (Q_HI0_e5 (hon 5 (by kernel_rfl)))
     refine value_ (w1:=w') (v:=.string (((a1.extract 0 (t196:Int).toNat) ++ (rdOf ByteArray.empty y198 t201)) ++ (a1.extract ((ji19):Int).toNat a1.size))) (by rfl) rfl ?_ ?_
     ·go_simp
      (try simp only [i64_w])
      try rfl
     refine hK.out _ _ ⟨v199,adz_v199,m6_,(by rw [ha.out];exact putSel_upk 9 hb_ rfl rfl rfl),fun h0_ => absurd ((hon 5 (by kernel_rfl)).symm.trans h0_) (by decide),Q_HK,Q_HB,Q_HO200,Q_HA_HO200,Q_HI0_e5,Q_X6_⟩
    exact steps_nil
   rintro b a w30 hall ⟨v199,adz_v199,m6_,ha,Q_HI0,Q_HK,Q_HB,Q_HO200,Q_HA_HO200,Q_HI0_e5,Q_X6_⟩
   clear HB HI0 HK
   have hb2_:=hall 2 (by kernel_rfl)
   have hb3_:=hall 3 (by kernel_rfl)
   have hb5_:=hall 5 (by kernel_rfl)
   have hb6_:=hall 6 (by kernel_rfl)
   have hb7_:=hall 7 (by kernel_rfl)
   have hb8_:=hall 8 (by kernel_rfl)
   have hb11_:=hall 11 (by kernel_rfl)
   have hb12_:=hall 12 (by kernel_rfl)
   have hb13_:=hall 13 (by kernel_rfl)
   have hb14_:=hall 14 (by kernel_rfl)
   subst ha
   obtain rfl:=Q_X6_ hb6_
   simp only [putSel,hb2_,hb3_,hb5_,hb6_,hb7_,hb8_,hb11_,hb12_,hb13_,hb14_,if_true,Act.put,List.setIfInBounds_toArray,List.set_cons_zero,List.set_cons_succ]
   clear Q_HI0
   have HK:=Aside0.mk Q_HK
   clear Q_HK
   have HB:=Aside0.mk Q_HB
   clear Q_HB
   have HO200:=Aside0.mk (Q_HO200 hb3_)
   clear Q_HO200
   have HA_HO200:=Aside0.mk (Q_HA_HO200 hb3_)
   clear Q_HA_HO200
   have HI0:=Aside0.mk (Q_HI0_e5 hb5_)
   clear Q_HI0_e5
   clear hall hb2_ hb3_ hb5_ hb6_ hb7_ hb8_ hb11_ hb12_ hb13_ hb14_
   obtain ⟨co31,eo31⟩:=HA_HO200.out
   clear HA_HO200
   subst eo31
   try go_wp2
   go_ret
   exact ⟨by first | rfl | (simp [errW_none,errW_some] <;> rfl) | (simp only [← hji19];first | rfl | (simp [errW_none,errW_some] <;> rfl)) | (simp [*,errW_none,errW_some] <;> rfl) | (exfalso;simp_all;done),q16_,q7_,q17_⟩
  rw [if_neg c11] at H
  have c11b0:decide (0 < (a1.size:Int)) = false:=decide_eq_false c11
  have c11b1:decide (0 < a1.size) = false:=decide_eq_false (by omega)
  clear c11
  simp only [Option.some.injEq,Prod.mk.injEq] at H
  obtain ⟨rfl,rfl⟩:=H
  go_enter Tryd.func28,Tryd.ntmps28
  go_wp2_with (first | ((with_reducible refine gate_callee (f:=30) rfl ?_);refine goesL_ (some 7) rfl rfl Tryd.func30 (by kernel_rfl) rfl #[.pointer (some ⟨g,0,none⟩),.int .i64 6] rfl q19_ ?_;(with_reducible refine (spec_l1Rd_below.calls g s0_0 s0_1 6 t192 t193 w0 _ ?side1 ?side2 A3.out).mono ?_);(case side1 => exact q49_);(case side2 => exact q40_);rintro e w32 ⟨rfl,hi,hb,hk⟩;refine ⟨_,rfl,?_⟩;have n0_:=Aside0.mk (KeepBut.trans q17_ hk (.inl rfl));have n1_:=Aside0.mk (hb);have n2_:=Aside0.mk (hi);clear HK;clear HB;clear HI0;have HK:=n0_;have HB:=n1_;have HI0:=n2_;clear n0_ n1_ n2_;(try clear hb);(try clear hk);(try clear hi)))
  go_ret
  exact ⟨q21_,q16_,q7_,q17_⟩
 rw [if_neg c10] at H
 have c10b0:(t192 == 2) = false:=beq_eq_false_iff_ne.mpr c10
 have c10b1:(t192 != 2) = true:=bne_iff_ne.mpr c10
 by_cases c33:t192 = 3
 ·rw [if_pos c33] at H
  have c33b0:(t192 == 3) = true:=beq_iff_eq.mpr c33
  have c33b1:(t192 != 3) = false:=bne_eq_false_iff_eq.mpr c33
  clear c33
  obtain ⟨y204,hy204⟩:∃ y_:List ByteArray,y_ = (([(⟨#[32]⟩:ByteArray),(⟨#[48]⟩:ByteArray),(⟨#[120]⟩:ByteArray)]:List ByteArray)):=⟨_,rfl⟩
  replace H:((spec_l1Rd_below.f s0_0 t193 3).bind fun bt207 => (if 0 ≤ bt207.1 then (if bt207.1 < (y204.length:Int) then (if a1.size + (rdOf ByteArray.empty y204 bt207.1).size ≤ 9223372036854775807 then (some (a1 ++ (rdOf ByteArray.empty y204 bt207.1),bt207.2)) else (none)) else (none)) else (none))) = some (r1,r2):=by first | (rw [hy204];exact H) | exact H
  have Ny204:=Aside0.mk hy204
  clear hy204
  replace H:=Option.bind_eq_some_iff.mp H
  obtain ⟨⟨t207,t208⟩,A340,H⟩:=H
  try dsimp -simprocs -eta only at H
  have A34:=Aside0.mk A340
  clear A340
  by_cases c35:0 ≤ t207
  rotate_left
  ·rw [if_neg c35] at H
   exact absurd H (by simp)
  rw [if_pos c35] at H
  have c35b0:=decide_eq_true c35
  clear c35
  by_cases c36:t207 < (y204.length:Int)
  rotate_left
  ·rw [if_neg c36] at H
   exact absurd H (by simp)
  rw [if_pos c36] at H
  have c36b0:=decide_eq_true c36
  clear c36
  by_cases c37:a1.size + (rdOf ByteArray.empty y204 t207).size ≤ 9223372036854775807
  rotate_left
  ·rw [if_neg c37] at H
   exact absurd H (by simp)
  rw [if_pos c37] at H
  have c37b0:=eq_true c37
  have c37b1:=decide_eq_true c37
  try have c37b2:(9223372036854775807 < a1.size + (rdOf ByteArray.empty y204 t207).size) = False:=eq_false (Nat.not_lt.2 c37)
  simp only [Option.some.injEq,Prod.mk.injEq] at H
  obtain ⟨rfl,rfl⟩:=H
  go_enter Tryd.func28,Tryd.ntmps28
  go_wp2_with (first | ((with_reducible refine gate_callee (f:=30) rfl ?_);refine goesL_ (some 7) rfl rfl Tryd.func30 (by kernel_rfl) rfl #[.pointer (some ⟨g,0,none⟩),.int .i64 6] rfl q19_ ?_;(with_reducible refine (spec_l1Rd_below.calls g s0_0 s0_1 6 t192 t193 w0 _ ?side1 ?side2 A3.out).mono ?_);(case side1 => exact q49_);(case side2 => exact q40_);rintro e w38 ⟨rfl,hi,hb,hk⟩;refine ⟨_,rfl,?_⟩;have n0_:=Aside0.mk (KeepBut.trans q17_ hk (.inl rfl));have n1_:=Aside0.mk (hb);have n2_:=Aside0.mk (hi);clear HK;clear HB;clear HI0;have HK:=n0_;have HB:=n1_;have HI0:=n2_;clear n0_ n1_ n2_;(try clear hb);(try clear hk);(try clear hi)) | ((with_reducible refine gate_dst (N:=43) rfl ?_);refine Kd.R_lit Kd.string _ 9 ?hg (N:=43) ?hd (xs:=([(⟨#[32]⟩:ByteArray),(⟨#[48]⟩:ByteArray),(⟨#[120]⟩:ByteArray)]:List ByteArray)) (inner:=[.string (⟨#[32]⟩:ByteArray),.string (⟨#[48]⟩:ByteArray),.string (⟨#[120]⟩:ByteArray)]) (ok:=fun _ => True) (okp:=fun _ => True) ?hr ?hp (fun _ hk => hk) trivial (Below.refl _ _) (Nat.le_refl _) (by simp) ?_;(case hd => rfl);(case hg => rfl);(case hr => exact q51_);(case hp => exact (Reps.one (show Kd.M Kd.string _ _ _ (⟨#[32]⟩:ByteArray) [.string (⟨#[32]⟩:ByteArray)] from rfl) (Reps.one (show Kd.M Kd.string _ _ _ (⟨#[48]⟩:ByteArray) [.string (⟨#[48]⟩:ByteArray)] from rfl) (Reps.one (show Kd.M Kd.string _ _ _ (⟨#[120]⟩:ByteArray) [.string (⟨#[120]⟩:ByteArray)] from rfl) (Reps.none _ _)))));intro v205 w39 ho40 hb hg_ hnew_;clear hg_ hnew_;(first | rw [← Ny204.out] at ho40 | (simp only [Int.reduceToNat] at ho40;rw [← Ny204.out] at ho40));have n0_:=Aside0.mk (Kd.R_lower ho40 (keep_size (w:=w) (g:=g) (row:=none) q17_));have n1_:=Aside0.mk (IsS62.below q16_ hb);have n2_:=Aside0.mk (KeepBut.trans q17_ (KeepBut.of_below hb g none) (.inl rfl));have n3_:=Aside0.mk (below_step q7_ hb);clear HI0;clear HK;clear HB;have HO206:=n0_;have HI0:=n1_;have HK:=n2_;have HB:=n3_;clear n0_ n1_ n2_ n3_;clear hb ho40) | ((with_reducible refine gate_callee (f:=30) rfl ?_);refine goesL_ (some 45) rfl rfl Tryd.func30 (by kernel_rfl) rfl #[.pointer (some ⟨g,0,none⟩),.int .i64 3] rfl q19_ ?_;(with_reducible refine (spec_l1Rd_below.calls g s0_0 t193 3 t207 t208 w0 _ ?side1 ?side2 A34.out).mono ?_);(case side1 => exact q49_);(case side2 => exact q40_);rintro e w41 ⟨rfl,hi,hb,hk⟩;refine ⟨_,rfl,?_⟩;have n0_:=Aside0.mk (Kd.R_mono (Kd.R_keep (IsS62.apart (show IsS62 w0 _ g s0_0 t193 from by repeat (first | (with_reducible first | exact HI0.out | apply IsS62.alloc | apply IsS62.drewN | apply IsS62.drew | apply IsS62.set_1) | exact HI0.out)) (by (with_reducible repeat (first | apply Kd.R_alloc | apply Kd.R_drewN | apply Kd.R_drew));exact HO206.out) (by decide)) hk (fun _ h => h.2)) (fun _ h => h.1));have n1_:=Aside0.mk (KeepBut.trans q17_ hk (.inl rfl));have n2_:=Aside0.mk (hb);have n3_:=Aside0.mk (hi);clear HO206;clear HK;clear HB;clear HI0;have HO206:=n0_;have HK:=n1_;have HB:=n2_;have HI0:=n3_;clear n0_ n1_ n2_ n3_;(try clear hb);(try clear hk);(try clear hi);obtain ⟨Ao42,co42,eo42⟩:=Kd.R_slice HO206.out;subst eo42;have p209:0 ≤ (t207:Int):=of_decide_eq_true q36_;have q209:t207 < (y204.length:Int):=of_decide_eq_true q36_;obtain ⟨ad209,e209,hx209_0⟩:=Kd.at_string (Kd.R_reads' HO206.out).2.2 t207 p209 q209;cases e209;replace p209:=eq_true p209;replace q209:=eq_true q209))
  go_ret
  exact ⟨q21_,q16_,q7_,q17_⟩
 rw [if_neg c33] at H
 have c33b0:(t192 == 3) = false:=beq_eq_false_iff_ne.mpr c33
 have c33b1:(t192 != 3) = true:=bne_iff_ne.mpr c33
 simp only [Option.some.injEq,Prod.mk.injEq] at H
 obtain ⟨rfl,rfl⟩:=H
 go_enter Tryd.func28,Tryd.ntmps28
 go_wp2_with (first | ((with_reducible refine gate_callee (f:=30) rfl ?_);refine goesL_ (some 7) rfl rfl Tryd.func30 (by kernel_rfl) rfl #[.pointer (some ⟨g,0,none⟩),.int .i64 6] rfl q19_ ?_;(with_reducible refine (spec_l1Rd_below.calls g s0_0 s0_1 6 t192 t193 w0 _ ?side1 ?side2 A3.out).mono ?_);(case side1 => exact q49_);(case side2 => exact q40_);rintro e w43 ⟨rfl,hi,hb,hk⟩;refine ⟨_,rfl,?_⟩;have n0_:=Aside0.mk (KeepBut.trans q17_ hk (.inl rfl));have n1_:=Aside0.mk (hb);have n2_:=Aside0.mk (hi);clear HK;clear HB;clear HI0;have HK:=n0_;have HB:=n1_;have HI0:=n2_;clear n0_ n1_ n2_;(try clear hb);(try clear hk);(try clear hi)))
 go_ret
 exact ⟨q21_,q16_,q7_,q17_⟩
def spec_DrawReadSyms.f (k:Nat) (l0:List Int):Option (ByteArray):=(spec_l1Open.f l0).bind fun bt210 => ((spec_DrawSymText.f k l0).bind fun t213 => ((spec_SymText.f k t213).bind fun t216 => ((spec_l1Rd_once.f bt210.1 bt210.2 2).bind fun bt217 => (if bt217.1 = true then (some t216) else ((spec_l1Rd_hurt.f bt210.1 bt217.2 t216).bind fun bt219 => (some bt219.1))))))
theorem spec_DrawReadSyms.calls (k:Nat) (A0:Option Addr) (c0:Nat) (l0:List Int) (r:ByteArray) (w:World) (hr0:Kd.C (Kd.int .u8) w A0 l0.length l0) (hc0:l0.length ≤ c0) (h:spec_DrawReadSyms.f k l0 = some r) :
  Calls Tryd.prog 24 #[.slice A0 l0.length c0] w fun e w' => e = .returned (.string r) ∧ Below w.heap.size w w':=by
 have HR0:=Aside0.mk hr0
 have HC0:=Aside0.mk hc0
 clear hr0 hc0
 have HB:=Aside0.mk (Below.refl w.heap.size w)
 have H:=h;unfold spec_DrawReadSyms.f at H
 clear h
 replace H:=Option.bind_eq_some_iff.mp H
 obtain ⟨⟨t210,t211⟩,A20,H⟩:=H
 try dsimp -simprocs -eta only at H
 have A2:=Aside0.mk A20
 clear A20
 replace H:=Option.bind_eq_some_iff.mp H
 obtain ⟨t213,A30,H⟩:=H
 have A3:=Aside0.mk A30
 clear A30
 replace H:=Option.bind_eq_some_iff.mp H
 obtain ⟨t216,A40,H⟩:=H
 have A4:=Aside0.mk A40
 clear A40
 replace H:=Option.bind_eq_some_iff.mp H
 obtain ⟨⟨t217,t218⟩,A50,H⟩:=H
 try dsimp -simprocs -eta only at H
 have A5:=Aside0.mk A50
 clear A50
 by_cases c6:t217 = true
 ·subst c6
  rewrite [if_pos rfl] at H
  obtain rfl:=Option.some.inj H
  go_enter Tryd.func24,Tryd.ntmps24
  go_wp2_with (first | ((with_reducible refine gate_callee (f:=26) rfl ?_);refine goesL_ (some 6) rfl rfl Tryd.func26 (by kernel_rfl) rfl #[.slice A0 l0.length c0] rfl q19_ ?_;(with_reducible refine (spec_l1Open.calls _ _ l0 t210 t211 w _ ?side1 ?side2 ?side3 A2.out).mono ?_);(case side1 => exact q50_);(case side2 => exact HR0.out);(case side3 => exact HC0.out);rintro e w7 ⟨g212,rfl,hi,hb,hb2⟩;refine ⟨_,rfl,?_⟩;have n0_:=Aside0.mk (hb);have n1_:=Aside0.mk (hi);clear HB;have HB:=n0_;have HI212:=n1_;clear n0_ n1_;(try clear hb);(try clear hb2);(try clear hi)) | ((with_reducible refine gate_callee (f:=19) rfl ?_);refine goesL_ (some 8) rfl rfl Tryd.func19 (by kernel_rfl) rfl #[.slice A0 l0.length c0] rfl q19_ ?_;(with_reducible refine (spec_DrawSymText.calls k _ _ l0 t213 _ ?side1 ?side2 A3.out).mono ?_);(case side1 => exact q41_);(case side2 => exact HC0.out);rintro e w8 ⟨v214,rfl,ho0,hb⟩;refine ⟨_,rfl,?_⟩;have n0_:=Aside0.mk (Kd.R_lower ho0 (below_size q6_));have n1_:=Aside0.mk (IsS62.below q15_ hb);have n2_:=Aside0.mk (below_step q6_ hb);clear HI212;clear HB;have HO215:=n0_;have HI212:=n1_;have HB:=n2_;clear n0_ n1_ n2_;(try clear hb);(try clear ho0);obtain ⟨Ao9,co9,eo9⟩:=Kd.R_slice HO215.out;subst eo9) | ((with_reducible refine gate_callee (f:=22) rfl ?_);refine goesL_ (some 9) rfl rfl Tryd.func22 (by kernel_rfl) rfl #[.slice Ao9 t213.length co9] rfl q19_ ?_;(with_reducible refine (spec_SymText.calls k _ _ t213 t216 _ ?side1 ?side2 A4.out).mono ?_);(case side1 => exact q42_);(case side2 => exact (Kd.R_reads' HO215.out).2.1);rintro e w10 ⟨rfl,hb⟩;refine ⟨_,rfl,?_⟩;have n0_:=Aside0.mk (Kd.R_below q27_ hb);have n1_:=Aside0.mk (IsS62.below q15_ hb);have n2_:=Aside0.mk (below_step q6_ hb);clear HO215;clear HI212;clear HB;have HO215:=n0_;have HI212:=n1_;have HB:=n2_;clear n0_ n1_ n2_;(try clear hb)) | ((with_reducible refine gate_callee (f:=27) rfl ?_);refine goesL_ (some 11) rfl rfl Tryd.func27 (by kernel_rfl) rfl #[.pointer (some ⟨g212,0,none⟩),.int .i64 2] rfl q19_ ?_;(with_reducible refine (spec_l1Rd_once.calls g212 t210 t211 2 true t218 w _ ?side1 ?side2 A5.out).mono ?_);(case side1 => exact q47_);(case side2 => exact q39_);rintro e w11 ⟨rfl,hi,hb,hk⟩;refine ⟨_,rfl,?_⟩;have n0_:=Aside0.mk (Kd.R_mono (Kd.R_keep (IsS62.apart (show IsS62 w _ g212 t210 t211 from by repeat (first | (with_reducible first | exact HI212.out | apply IsS62.alloc | apply IsS62.drewN | apply IsS62.drew | apply IsS62.set_1) | exact HI212.out)) q27_ (by decide)) hk (fun _ h => h.2)) (fun _ h => h.1));have n1_:=Aside0.mk (hb);have n2_:=Aside0.mk (hi);clear HO215;clear HB;clear HI212;have HO215:=n0_;have HB:=n1_;have HI212:=n2_;clear n0_ n1_ n2_;(try clear hb);(try clear hk);(try clear hi)))
  go_ret
  exact ⟨q21_,q6_⟩
 replace c6:=Bool.eq_false_iff.mpr c6
 subst c6
 rewrite [if_neg (show ¬ (false = true) by decide)] at H
 replace H:=Option.bind_eq_some_iff.mp H
 obtain ⟨⟨t219,t220⟩,A120,H⟩:=H
 replace H:(some t219) = some r:=H
 have A12:=Aside0.mk A120
 clear A120
 obtain rfl:=Option.some.inj H
 go_enter Tryd.func24,Tryd.ntmps24
 go_wp2_with (first | ((with_reducible refine gate_callee (f:=26) rfl ?_);refine goesL_ (some 6) rfl rfl Tryd.func26 (by kernel_rfl) rfl #[.slice A0 l0.length c0] rfl q19_ ?_;(with_reducible refine (spec_l1Open.calls _ _ l0 t210 t211 w _ ?side1 ?side2 ?side3 A2.out).mono ?_);(case side1 => exact q50_);(case side2 => exact HR0.out);(case side3 => exact HC0.out);rintro e w13 ⟨g212,rfl,hi,hb,hb2⟩;refine ⟨_,rfl,?_⟩;have n0_:=Aside0.mk (hb);have n1_:=Aside0.mk (hi);clear HB;have HB:=n0_;have HI212:=n1_;clear n0_ n1_;(try clear hb);(try clear hb2);(try clear hi)) | ((with_reducible refine gate_callee (f:=19) rfl ?_);refine goesL_ (some 8) rfl rfl Tryd.func19 (by kernel_rfl) rfl #[.slice A0 l0.length c0] rfl q19_ ?_;(with_reducible refine (spec_DrawSymText.calls k _ _ l0 t213 _ ?side1 ?side2 A3.out).mono ?_);(case side1 => exact q41_);(case side2 => exact HC0.out);rintro e w14 ⟨v214,rfl,ho0,hb⟩;refine ⟨_,rfl,?_⟩;have n0_:=Aside0.mk (Kd.R_lower ho0 (below_size q6_));have n1_:=Aside0.mk (IsS62.below q15_ hb);have n2_:=Aside0.mk (below_step q6_ hb);clear HI212;clear HB;have HO215:=n0_;have HI212:=n1_;have HB:=n2_;clear n0_ n1_ n2_;(try clear hb);(try clear ho0);obtain ⟨Ao15,co15,eo15⟩:=Kd.R_slice HO215.out;subst eo15) | ((with_reducible refine gate_callee (f:=22) rfl ?_);refine goesL_ (some 9) rfl rfl Tryd.func22 (by kernel_rfl) rfl #[.slice Ao15 t213.length co15] rfl q19_ ?_;(with_reducible refine (spec_SymText.calls k _ _ t213 t216 _ ?side1 ?side2 A4.out).mono ?_);(case side1 => exact q42_);(case side2 => exact (Kd.R_reads' HO215.out).2.1);rintro e w16 ⟨rfl,hb⟩;refine ⟨_,rfl,?_⟩;have n0_:=Aside0.mk (Kd.R_below q27_ hb);have n1_:=Aside0.mk (IsS62.below q15_ hb);have n2_:=Aside0.mk (below_step q6_ hb);clear HO215;clear HI212;clear HB;have HO215:=n0_;have HI212:=n1_;have HB:=n2_;clear n0_ n1_ n2_;(try clear hb)) | ((with_reducible refine gate_callee (f:=27) rfl ?_);refine goesL_ (some 11) rfl rfl Tryd.func27 (by kernel_rfl) rfl #[.pointer (some ⟨g212,0,none⟩),.int .i64 2] rfl q19_ ?_;(with_reducible refine (spec_l1Rd_once.calls g212 t210 t211 2 false t218 w _ ?side1 ?side2 A5.out).mono ?_);(case side1 => exact q47_);(case side2 => exact q39_);rintro e w17 ⟨rfl,hi,hb,hk⟩;refine ⟨_,rfl,?_⟩;have n0_:=Aside0.mk (Kd.R_mono (Kd.R_keep (IsS62.apart (show IsS62 w _ g212 t210 t211 from by repeat (first | (with_reducible first | exact HI212.out | apply IsS62.alloc | apply IsS62.drewN | apply IsS62.drew | apply IsS62.set_1) | exact HI212.out)) q27_ (by decide)) hk (fun _ h => h.2)) (fun _ h => h.1));have n1_:=Aside0.mk (hb);have n2_:=Aside0.mk (hi);clear HO215;clear HB;clear HI212;have HO215:=n0_;have HB:=n1_;have HI212:=n2_;clear n0_ n1_ n2_;(try clear hb);(try clear hk);(try clear hi)) | ((with_reducible refine gate_callee (f:=28) rfl ?_);refine goesL_ (some 15) rfl rfl Tryd.func28 (by kernel_rfl) rfl #[.pointer (some ⟨g212,0,none⟩),.string t216] rfl q19_ ?_;(with_reducible refine (spec_l1Rd_hurt.calls g212 t210 t218 t216 t219 t220 w _ ?side1 ?side2 A12.out).mono ?_);(case side1 => exact q47_);(case side2 => exact q39_);rintro e w18 ⟨rfl,hi,hb,hk⟩;refine ⟨_,rfl,?_⟩;have n0_:=Aside0.mk (Kd.R_mono (Kd.R_keep (IsS62.apart (show IsS62 w _ g212 t210 t218 from by repeat (first | (with_reducible first | exact HI212.out | apply IsS62.alloc | apply IsS62.drewN | apply IsS62.drew | apply IsS62.set_1) | exact HI212.out)) q27_ (by decide)) hk (fun _ h => h.2)) (fun _ h => h.1));have n1_:=Aside0.mk (hb);have n2_:=Aside0.mk (hi);clear HO215;clear HB;clear HI212;have HO215:=n0_;have HB:=n1_;have HI212:=n2_;clear n0_ n1_ n2_;(try clear hb);(try clear hk);(try clear hi)))
 go_ret
 exact ⟨q21_,q6_⟩
def spec_l1Cut.l0:Nat → ByteArray → Int → Int → Option (ByteArray × ByteArray × Bool)
 | 0,_,_,_ => none
 | k + 1,x0,x1,x7 => if x7 < (x0.size:Int) then (if 0 ≤ x7 then (if (bt x0 x7) = x1 then (if x7 ≤ (x0.size:Int) then (if 0 ≤ (wrap64 (x7 + 1)) then (if (wrap64 (x7 + 1)) ≤ (x0.size:Int) then (some (x0.extract 0 (x7:Int).toNat,x0.extract ((wrap64 (x7 + 1)):Int).toNat x0.size,true)) else (none)) else (none)) else (none)) else (spec_l1Cut.l0 k x0 x1 (wrap64 (x7 + 1)))) else (none)) else (some (x0,(⟨#[]⟩:ByteArray),false))
def spec_l1Cut.f (k:Nat) (a0:ByteArray) (a1:Int):Option (ByteArray × ByteArray × Bool):=spec_l1Cut.l0 k a0 a1 0
theorem spec_l1Cut.calls (k:Nat) (a0:ByteArray) (a1:Int) (r1:ByteArray) (r2:ByteArray) (r3:Bool) (w:World) (h:spec_l1Cut.f k a0 a1 = some (r1,r2,r3)) :
  Calls Tryd.prog 34 #[.string a0,.int .u8 a1] w fun e w' => e = .returned (.tuple #[.string r1,.string r2,.bool r3]) ∧ Drawn0 w w':=by
 have H:(spec_l1Cut.l0 k a0 a1 0) = some (r1,r2,r3):=h
 clear h
 have H':=Aside0.mk H
 clear H
 go_enter Tryd.func34,Tryd.ntmps34
 go_wp2
 repeat (go_quiet (fail);try go_wp2)
 go_loopg [7] k (fun kq v7 w' => ∃ (x7_1:Int),v7 = .int .i64 x7_1 ∧ Aside0 (spec_l1Cut.l0 kq a0 a1 x7_1 = some (r1,r2,r3)) ∧ Aside0 (kq ≤ k) ∧ Drawn0 w w')
 case atStart => exact ⟨(0),q26_,H',⟨Nat.le_refl _⟩,q34_⟩
 clear H'
 try clear p2
 obtain ⟨x7_1,rfl,HA,HK1,⟨m1,rfl⟩⟩:=hrel
 cases gk with
 | zero => exact absurd HA.out (by simp [spec_l1Cut.l0])
 | succ k1 =>
  have H:=HA.out
  clear HA
  simp only [spec_l1Cut.l0] at H
  by_cases c3:x7_1 < (a0.size:Int)
  ·rw [if_pos c3] at H
   have c3b0:=decide_eq_true c3
   clear c3
   by_cases c4:0 ≤ x7_1
   rotate_left
   ·rw [if_neg c4] at H
    exact absurd H (by simp)
   rw [if_pos c4] at H
   have c4b0:=decide_eq_true c4
   clear c4
   by_cases c6:(bt a0 x7_1) = a1
   ·rw [if_pos c6] at H
    have c6b0:((bt a0 x7_1) == a1) = true:=beq_iff_eq.mpr c6
    have c6b1:((bt a0 x7_1) != a1) = false:=bne_eq_false_iff_eq.mpr c6
    clear c6
    have c7b0:=eq_true (of_decide_eq_true q36_:0 ≤ x7_1)
    by_cases c8:x7_1 ≤ (a0.size:Int)
    rotate_left
    ·rw [if_neg c8] at H
     exact absurd H (by simp)
    rw [if_pos c8] at H
    have c8b0:=eq_true c8
    have c8b1:=decide_eq_true c8
    clear c8
    obtain ⟨ji9,hji9⟩:∃ j_:Int,(wrap64 (x7_1 + 1)) = j_:=⟨_,rfl⟩
    (first | rewrite [hji9] at H | simp only [hji9] at H)
    have hji9w:(IntKind.i64.wrap (x7_1 + 1)) = ji9:=(i64_w _).trans hji9
    by_cases c10:0 ≤ (ji9)
    rotate_left
    ·rw [if_neg c10] at H
     exact absurd H (by simp)
    rw [if_pos c10] at H
    have c10b0:=eq_true c10
    have c10b1:=decide_eq_true c10
    clear c10
    by_cases c11:(ji9) ≤ (a0.size:Int)
    rotate_left
    ·rw [if_neg c11] at H
     exact absurd H (by simp)
    rw [if_pos c11] at H
    have c11b0:=eq_true c11
    have c11b1:=decide_eq_true c11
    clear c11
    simp only [Option.some.injEq,Prod.mk.injEq] at H
    obtain ⟨rfl,rfl,rfl⟩:=H
    have p5:0 ≤ (x7_1:Int):=of_decide_eq_true q36_
    have q5:x7_1 < (a0.size:Int):=of_decide_eq_true q36_
    have hx5:=bt_at a0 x7_1
    replace p5:=eq_true p5
    replace q5:=eq_true q5
    go_wp2
    repeat (go_quiet (fail);try go_wp2)
    go_ret3
    exact ⟨q8_,q34_⟩
   rw [if_neg c6] at H
   have c6b0:((bt a0 x7_1) == a1) = false:=beq_eq_false_iff_ne.mpr c6
   have c6b1:((bt a0 x7_1) != a1) = true:=bne_iff_ne.mpr c6
   have H':=Aside0.mk H
   clear H
   have p5:0 ≤ (x7_1:Int):=of_decide_eq_true q36_
   have q5:x7_1 < (a0.size:Int):=of_decide_eq_true q36_
   have hx5:=bt_at a0 x7_1
   replace p5:=eq_true p5
   replace q5:=eq_true q5
   go_wp2
   repeat (go_quiet (fail);try go_wp2)
   go_roundg k1
   case measure => have:=HK1.out;omega
   case rel => exact ⟨(wrap64 (x7_1 + 1)),q26_,H',⟨by have:=HK1.out;omega⟩,q34_⟩
  rw [if_neg c3] at H
  have c3b0:=decide_eq_false c3
  clear c3
  simp only [Option.some.injEq,Prod.mk.injEq] at H
  obtain ⟨rfl,rfl,rfl⟩:=H
  go_wp2
  repeat (go_quiet (fail);try go_wp2)
  go_ret3
  exact ⟨q26_,q34_⟩
end Go.Proofs.YtoiiaklmjpiejaaDoor.QFnSymTexts
