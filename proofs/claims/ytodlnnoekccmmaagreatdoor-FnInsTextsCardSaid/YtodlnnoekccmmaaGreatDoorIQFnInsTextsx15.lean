/- The machine's side of a law,written by a program of this session for this claim. -/
import Derived.Test.YtodlnnoekccmmaaGreatDoorIQq
import Derived.Test.YtodlnnoekccmmaaGreatDoorIQFnInsTextsx0
import Derived.Test.YtodlnnoekccmmaaGreatDoorIQFnInsTextsx7
import Derived.Test.YtodlnnoekccmmaaGreatDoorIQFnInsTextsx9
import Derived.Test.YtodlnnoekccmmaaGreatDoorIQFnInsTextsx10
import Derived.Test.YtodlnnoekccmmaaGreatDoorIQFnInsTextsx14
namespace Go.Proofs.YtodlnnoekccmmaaGreatDoor.QFnInsTexts
open Go.Proofs.YtodlnnoekccmmaaGreatDoor.Qq
open Go.RowKit Go.Proofs.YtodlnnoekccmmaaGreatDoor.LibX Go.Proofs.YtodlnnoekccmmaaGreatDoor.LibE Go.Proofs.YtodlnnoekccmmaaGreatDoor.LibCB Go.Proofs.YtodlnnoekccmmaaGreatDoorW.PrintWords Go.Proofs.YtodlnnoekccmmaaGreatDoorW.PrintLast Go.Proofs.YtodlnnoekccmmaaGreatDoorW.PrintMore
attribute [local go_sem] max2_int min2_int max_two min_two max_three min_three max_four min_four   -- for this text's walks alone
set_option maxHeartbeats 8000000
set_option maxRecDepth 100000
set_option linter.unusedVariables false
set_option linter.unusedSimpArgs false
def spec_InsText.f (k:Nat) (a0_0:Int) (a0_1:Bool) (a0_2:Int):Option (ByteArray):=(spec_InsOk.f k a0_0 a0_1 a0_2).bind fun t542 => (if t542 = true then ((spec_l3Template.f k a0_0 a0_1).bind fun t543 => ((spec_l3Hole.f k t543).bind fun bt544 => (if bt544.2.toList = ([110,49,54]:List UInt8) then (if 0 ≤ bt544.1 then (if bt544.1 ≤ (t543.size:Int) then ((spec_HexOf.f k a0_2 4).bind fun t546 => (if (t543.extract 0 (bt544.1:Int).toNat).size + t546.size ≤ 9223372036854775807 then (if 0 ≤ (wrap64 (bt544.1 + 3)) then (if (wrap64 (bt544.1 + 3)) ≤ (t543.size:Int) then (if ((t543.extract 0 (bt544.1:Int).toNat) ++ t546).size + (t543.extract ((wrap64 (bt544.1 + 3)):Int).toNat t543.size).size ≤ 9223372036854775807 then (some (((t543.extract 0 (bt544.1:Int).toNat) ++ t546) ++ (t543.extract ((wrap64 (bt544.1 + 3)):Int).toNat t543.size))) else (none)) else (none)) else (none)) else (none))) else (none)) else (none)) else (if bt544.2.toList = ([110,56]:List UInt8) then (if 0 ≤ bt544.1 then (if bt544.1 ≤ (t543.size:Int) then ((spec_HexOf.f k a0_2 2).bind fun t547 => (if (t543.extract 0 (bt544.1:Int).toNat).size + t547.size ≤ 9223372036854775807 then (if 0 ≤ (wrap64 (bt544.1 + 2)) then (if (wrap64 (bt544.1 + 2)) ≤ (t543.size:Int) then (if ((t543.extract 0 (bt544.1:Int).toNat) ++ t547).size + (t543.extract ((wrap64 (bt544.1 + 2)):Int).toNat t543.size).size ≤ 9223372036854775807 then (some (((t543.extract 0 (bt544.1:Int).toNat) ++ t547) ++ (t543.extract ((wrap64 (bt544.1 + 2)):Int).toNat t543.size))) else (none)) else (none)) else (none)) else (none))) else (none)) else (none)) else (if bt544.2.toList = ([101,56]:List UInt8) then (if 0 ≤ bt544.1 then (if bt544.1 ≤ (t543.size:Int) then ((spec_SignedOf.f a0_2).bind fun t548 => ((spec_l1Dec.f k t548).bind fun t549 => (if (t543.extract 0 (bt544.1:Int).toNat).size + t549.size ≤ 9223372036854775807 then (if 0 ≤ (wrap64 (bt544.1 + 2)) then (if (wrap64 (bt544.1 + 2)) ≤ (t543.size:Int) then (if ((t543.extract 0 (bt544.1:Int).toNat) ++ t549).size + (t543.extract ((wrap64 (bt544.1 + 2)):Int).toNat t543.size).size ≤ 9223372036854775807 then (some (((t543.extract 0 (bt544.1:Int).toNat) ++ t549) ++ (t543.extract ((wrap64 (bt544.1 + 2)):Int).toNat t543.size))) else (none)) else (none)) else (none)) else (none)))) else (none)) else (none)) else (some t543)))))) else (some (⟨#[]⟩:ByteArray)))
def spec_InsText.T7:Bool × List (List Nat × List Nat):=(true,[([],[]),([],[]),([0,1],[0,1]),([],[]),([3],[3]),([4],[4]),([2,5],[2,5]),([],[]),([],[]),([8],[8]),([7,9],[7,9]),([6,10],[6,10]),([11,5,0,1,2,3,4,5,6,7,8,9,10,11],[11])])
def spec_InsText.B7:List Nat:=[0,0,3,0,8,24,63,0,0,256,896,2047,4095]
theorem spec_InsText.tab7:rtab .any (opsOf Tryz.f28 7) = spec_InsText.T7:=by kernel_rfl
theorem spec_InsText.bits7:waitsOk spec_InsText.T7.2 spec_InsText.B7 = true:=by kernel_rfl
def spec_InsText.T9:Bool × List (List Nat × List Nat):=(true,[([],[]),([],[]),([0,1],[0,1]),([],[]),([3],[3]),([4],[4]),([2,5],[2,5]),([],[]),([],[]),([8],[8]),([7,9],[7,9]),([6,10],[6,10]),([11,5,0,1,2,3,4,5,6,7,8,9,10,11],[11])])
def spec_InsText.B9:List Nat:=[0,0,3,0,8,24,63,0,0,256,896,2047,4095]
theorem spec_InsText.tab9:rtab .any (opsOf Tryz.f28 9) = spec_InsText.T9:=by kernel_rfl
theorem spec_InsText.bits9:waitsOk spec_InsText.T9.2 spec_InsText.B9 = true:=by kernel_rfl
def spec_InsText.T11:Bool × List (List Nat × List Nat):=(true,[([],[]),([],[]),([0,1],[0,1]),([],[]),([3],[3]),([4],[4]),([5,5],[5]),([2,6],[2,6]),([],[]),([],[]),([9],[9]),([8,10],[8,10]),([7,11],[7,11]),([12,6,0,1,2,3,4,5,6,7,8,9,10,11,12],[12])])
def spec_InsText.B11:List Nat:=[0,0,3,0,8,24,56,127,0,0,512,1792,4095,8191]
theorem spec_InsText.tab11:rtab .any (opsOf Tryz.f28 11) = spec_InsText.T11:=by kernel_rfl
theorem spec_InsText.bits11:waitsOk spec_InsText.T11.2 spec_InsText.B11 = true:=by kernel_rfl
theorem spec_InsText.calls (k:Nat) (a0_0:Int) (a0_1:Bool) (a0_2:Int) (r:ByteArray) (w:World) (h:spec_InsText.f k a0_0 a0_1 a0_2 = some r) :
  Calls Tryz.prog 28 #[.agg #[.int .i64 a0_0,.bool a0_1,.int .i64 a0_2]] w fun e w' => e = .returned (.string r) ∧ Below w.heap.size w w':=by
 have hu30:=Tryz.underlying30
 have HB:=Aside0.mk (Below.refl w.heap.size w)
 have H:=h;unfold spec_InsText.f at H
 clear h
 replace H:=Option.bind_eq_some_iff.mp H
 obtain ⟨t542,A20,H⟩:=H
 have A2:=Aside0.mk A20
 clear A20
 by_cases c3:t542 = true
 ·subst c3
  rewrite [if_pos rfl] at H
  replace H:=Option.bind_eq_some_iff.mp H
  obtain ⟨t543,A40,H⟩:=H
  have A4:=Aside0.mk A40
  clear A40
  replace H:=Option.bind_eq_some_iff.mp H
  obtain ⟨⟨t544,t545⟩,A50,H⟩:=H
  try dsimp -simprocs -eta only at H
  have A5:=Aside0.mk A50
  clear A50
  by_cases c6:t545.toList = ([110,49,54]:List UInt8)
  ·rw [if_pos c6] at H
   have c6b0:(t545.toList == ([110,49,54]:List UInt8)) = true:=beq_iff_eq.mpr c6
   have c6b1:(t545.toList != ([110,49,54]:List UInt8)) = false:=bne_eq_false_iff_eq.mpr c6
   clear c6
   by_cases c7:0 ≤ t544
   rotate_left
   ·rw [if_neg c7] at H
    exact absurd H (by simp)
   rw [if_pos c7] at H
   have c7b0:=eq_true c7
   have c7b1:=decide_eq_true c7
   clear c7
   by_cases c8:t544 ≤ (t543.size:Int)
   rotate_left
   ·rw [if_neg c8] at H
    exact absurd H (by simp)
   rw [if_pos c8] at H
   have c8b0:=eq_true c8
   have c8b1:=decide_eq_true c8
   clear c8
   replace H:=Option.bind_eq_some_iff.mp H
   obtain ⟨t546,A90,H⟩:=H
   have A9:=Aside0.mk A90
   clear A90
   by_cases c10:(t543.extract 0 (t544:Int).toNat).size + t546.size ≤ 9223372036854775807
   rotate_left
   ·rw [if_neg c10] at H
    exact absurd H (by simp)
   rw [if_pos c10] at H
   have c10b0:=eq_true c10
   (try (have c10b0e:=c10b0;simp only [ByteArray.size_append,ByteArray.size_extract,Nat.min_self,Nat.sub_zero] at c10b0e))
   (try (have c10b0f:=c10b0e;simp only [show min (t544:Int).toNat t543.size = (t544:Int).toNat from Nat.min_eq_left (by have q_:t544 ≤ (t543.size:Int):=of_decide_eq_true q109_;omega)] at c10b0f))
   have c10b1:=decide_eq_true c10
   (try (have c10b1e:=c10b1;simp only [ByteArray.size_append,ByteArray.size_extract,Nat.min_self,Nat.sub_zero] at c10b1e))
   (try (have c10b1f:=c10b1e;simp only [show min (t544:Int).toNat t543.size = (t544:Int).toNat from Nat.min_eq_left (by have q_:t544 ≤ (t543.size:Int):=of_decide_eq_true q109_;omega)] at c10b1f))
   try have c10b2:(9223372036854775807 < (t543.extract 0 (t544:Int).toNat).size + t546.size) = False:=eq_false (Nat.not_lt.2 c10)
   (try (have c10b2e:=c10b2;simp only [ByteArray.size_append,ByteArray.size_extract,Nat.min_self,Nat.sub_zero] at c10b2e))
   (try (first | (have c10b2p:=eq_true (of_decide_eq_true c10b2e)) | (have c10b2p:=eq_false (of_decide_eq_false c10b2e))))
   (try (have c10b2f:=c10b2e;simp only [show min (t544:Int).toNat t543.size = (t544:Int).toNat from Nat.min_eq_left (by have q_:t544 ≤ (t543.size:Int):=of_decide_eq_true q109_;omega)] at c10b2f))
   obtain ⟨ji11,hji11⟩:∃ j_:Int,(wrap64 (t544 + 3)) = j_:=⟨_,rfl⟩
   (first | rewrite [hji11] at H | simp only [hji11] at H)
   (try rw [hji11] at A2)
   (try rw [hji11] at A4)
   (try rw [hji11] at A5)
   (try rw [hji11] at A9)
   have hji11w:(IntKind.i64.wrap (t544 + 3)) = ji11:=(i64_w _).trans hji11
   by_cases c12:0 ≤ (ji11)
   rotate_left
   ·rw [if_neg c12] at H
    exact absurd H (by simp)
   rw [if_pos c12] at H
   have c12b0:=eq_true c12
   have c12b1:=decide_eq_true c12
   clear c12
   by_cases c13:(ji11) ≤ (t543.size:Int)
   rotate_left
   ·rw [if_neg c13] at H
    exact absurd H (by simp)
   rw [if_pos c13] at H
   have c13b0:=eq_true c13
   have c13b1:=decide_eq_true c13
   clear c13
   by_cases c14:((t543.extract 0 (t544:Int).toNat) ++ t546).size + (t543.extract ((ji11):Int).toNat t543.size).size ≤ 9223372036854775807
   rotate_left
   ·rw [if_neg c14] at H
    exact absurd H (by simp)
   rw [if_pos c14] at H
   have c14b0:=eq_true c14
   (try (have c14b0e:=c14b0;simp only [ByteArray.size_append,ByteArray.size_extract,Nat.min_self,Nat.sub_zero] at c14b0e))
   (try (have c14b0f:=c14b0e;simp only [show min (t544:Int).toNat t543.size = (t544:Int).toNat from Nat.min_eq_left (by have q_:t544 ≤ (t543.size:Int):=of_decide_eq_true q109_;omega)] at c14b0f))
   have c14b1:=decide_eq_true c14
   (try (have c14b1e:=c14b1;simp only [ByteArray.size_append,ByteArray.size_extract,Nat.min_self,Nat.sub_zero] at c14b1e))
   (try (have c14b1f:=c14b1e;simp only [show min (t544:Int).toNat t543.size = (t544:Int).toNat from Nat.min_eq_left (by have q_:t544 ≤ (t543.size:Int):=of_decide_eq_true q109_;omega)] at c14b1f))
   try have c14b2:(9223372036854775807 < ((t543.extract 0 (t544:Int).toNat) ++ t546).size + (t543.extract ((ji11):Int).toNat t543.size).size) = False:=eq_false (Nat.not_lt.2 c14)
   (try (have c14b2e:=c14b2;simp only [ByteArray.size_append,ByteArray.size_extract,Nat.min_self,Nat.sub_zero] at c14b2e))
   (try (first | (have c14b2p:=eq_true (of_decide_eq_true c14b2e)) | (have c14b2p:=eq_false (of_decide_eq_false c14b2e))))
   (try (have c14b2f:=c14b2e;simp only [show min (t544:Int).toNat t543.size = (t544:Int).toNat from Nat.min_eq_left (by have q_:t544 ≤ (t543.size:Int):=of_decide_eq_true q109_;omega)] at c14b2f))
   obtain rfl:=Option.some.inj H
   go_enter Tryz.func28,Tryz.ntmps28
   try go_wp2_with (first | ((with_reducible refine gate_dst (N:=1) rfl ?_);refine box_event ?hg (N:=1) ?hd (cs:=#[.int .i64 a0_0,.bool a0_1,.int .i64 a0_2]) (t:=30) ?hr ?_;(case hd => rfl);(case hg => rfl);(case hr => exact q139_);intro gb541 hg w15 hbox hb;have n0_:=Aside0.mk (below_step q72_ hb);have n1_:=Aside0.mk (hbox);have n2_:=Aside0.mk ((q56_:w.heap.size ≤ gb541));have n3_:=Aside0.mk ((q56_:w.heap.size ≤ gb541));clear HB;have HB:=n0_;have BK541:=n1_;have GW541:=n2_;have GE541:=n3_;clear n0_ n1_ n2_ n3_;clear hb hbox hg;have hcz16_0:w15.cell? ⟨gb541,0,none⟩ = some (.int .i64 a0_0):=(blk_cell BK541.out 0).trans rfl;have hcz16_1:w15.cell? ⟨gb541,1,none⟩ = some (.bool a0_1):=(blk_cell BK541.out 1).trans rfl;have hcz16_2:w15.cell? ⟨gb541,2,none⟩ = some (.int .i64 a0_2):=(blk_cell BK541.out 2).trans rfl;have hfz16_0:=blk_frozen BK541.out 0;have hfz16_1:=blk_frozen BK541.out 1;have hfz16_2:=blk_frozen BK541.out 2) | ((with_reducible refine gate_callee (f:=21) rfl ?_);refine goesL_ (some 7) rfl rfl Tryz.func21 (by kernel_rfl) rfl #[.agg #[.int .i64 a0_0,.bool a0_1,.int .i64 a0_2]] rfl q71_ ?_;(with_reducible refine (spec_InsOk.calls k a0_0 a0_1 a0_2 true _ A2.out).mono ?_);rintro e w17 ⟨rfl,hb⟩;refine ⟨_,rfl,?_⟩;have n0_:=Aside0.mk (blk_below (g:=gb541) (o:=.cells #[.int .i64 a0_0,.bool a0_1,.int .i64 a0_2] 30 (0,0)) q84_ hb);have n1_:=Aside0.mk (below_step q63_ hb);clear BK541;clear HB;have BK541:=n0_;have HB:=n1_;clear n0_ n1_;(try clear hb);have hcz18_0:w17.cell? ⟨gb541,0,none⟩ = some (.int .i64 a0_0):=(blk_cell BK541.out 0).trans rfl;have hcz18_1:w17.cell? ⟨gb541,1,none⟩ = some (.bool a0_1):=(blk_cell BK541.out 1).trans rfl;have hcz18_2:w17.cell? ⟨gb541,2,none⟩ = some (.int .i64 a0_2):=(blk_cell BK541.out 2).trans rfl;have hfz18_0:=blk_frozen BK541.out 0;have hfz18_1:=blk_frozen BK541.out 1;have hfz18_2:=blk_frozen BK541.out 2) | ((with_reducible refine gate_callee (f:=60) rfl ?_);refine goesL_ (some 13) rfl rfl Tryz.func60 (by kernel_rfl) rfl #[.int .i64 a0_0,.bool a0_1] rfl q71_ ?_;(with_reducible refine (spec_l3Template.calls k a0_0 a0_1 t543 _ A4.out).mono ?_);rintro e w19 ⟨rfl,hb⟩;refine ⟨_,rfl,?_⟩;have n0_:=Aside0.mk (blk_below (g:=gb541) (o:=.cells #[.int .i64 a0_0,.bool a0_1,.int .i64 a0_2] 30 (0,0)) q84_ hb);have n1_:=Aside0.mk (below_step q63_ hb);clear BK541;clear HB;have BK541:=n0_;have HB:=n1_;clear n0_ n1_;(try clear hb)) | ((with_reducible refine gate_callee (f:=59) rfl ?_);refine goesL_ (some 16) rfl rfl Tryz.func59 (by kernel_rfl) rfl #[.string t543] rfl q71_ ?_;(with_reducible refine (spec_l3Hole.calls k t543 t544 t545 _ A5.out).mono ?_);rintro e w20 ⟨rfl,hb⟩;refine ⟨_,rfl,?_⟩;have n0_:=Aside0.mk (blk_below (g:=gb541) (o:=.cells #[.int .i64 a0_0,.bool a0_1,.int .i64 a0_2] 30 (0,0)) q84_ hb);have n1_:=Aside0.mk (below_step q63_ hb);clear BK541;clear HB;have BK541:=n0_;have HB:=n1_;clear n0_ n1_;(try clear hb)))
   have n0_:=Aside0.mk (blk_drew BK541.out)
   have n1_:=Aside0.mk (below_drew1 HB.out)
   clear BK541
   clear HB
   have BK541:=n0_
   have HB:=n1_
   clear n0_ n1_
   refine start_ (n:=13) (S:=fun w' => w'.cell? ⟨gb541,0,none⟩ = some (.int .i64 a0_0) ∧ w'.cell? ⟨gb541,1,none⟩ = some (.bool a0_1) ∧ w'.cell? ⟨gb541,2,none⟩ = some (.int .i64 a0_2)) (ds:=[]) #[false,false,false,false,false,false,false,false,false,false,false,false,false] (by kernel_rfl) rfl rfl ⟨(blk_cell BK541.out 0).trans rfl,(blk_cell BK541.out 1).trans rfl,(blk_cell BK541.out 2).trans rfl⟩ (fun hHeld => ?_);refine with_tabW spec_InsText.tab7 spec_InsText.bits7 (fun HT_ HW_ => ?_)
   generalize w20.drew = w21 at BK541 HB hHeld ⊢
   refine pure_ (i:=0) (N:=some 22) (v:=?_) (a':=?_) #[true,false,false,false,false,false,false,false,false,false,false,false,false] rfl rfl (any_of HT_.out (by kernel_rfl)) (fun _ _ _ h => h) (Or.inl ⟨by rfl,?_⟩) ?_ ?_
   rotate_left
   ·intro w'
    go_simp
    with_reducible rfl
   rotate_left
   ·simp only [Act.put,List.setIfInBounds_toArray,List.set_cons_zero,List.set_cons_succ,i64_w,i32_w]
    rfl
   refine pure_ (i:=1) (N:=some 23) (v:=?_) (a':=?_) #[true,true,false,false,false,false,false,false,false,false,false,false,false] rfl rfl (any_of HT_.out (by kernel_rfl)) (fun _ _ _ h => h) (Or.inl ⟨by rfl,?_⟩) ?_ ?_
   rotate_left
   ·intro w'
    go_simp
    with_reducible rfl
   rotate_left
   ·simp only [Act.put,List.setIfInBounds_toArray,List.set_cons_zero,List.set_cons_succ,i64_w,i32_w]
    rfl
   refine pure_ (i:=2) (N:=some 24) (v:=?_) (a':=?_) #[true,true,true,false,false,false,false,false,false,false,false,false,false] rfl rfl (any_of HT_.out (by kernel_rfl)) (fun _ _ _ h => h) (Or.inl ⟨by rfl,?_⟩) ?_ ?_
   rotate_left
   ·intro w'
    go_simp
    with_reducible rfl
   rotate_left
   ·simp only [Act.put,List.setIfInBounds_toArray,List.set_cons_zero,List.set_cons_succ,i64_w,i32_w]
    rfl
   refine pure_ (i:=3) (N:=some 25) (v:=?_) (a':=?_) #[true,true,true,true,false,false,false,false,false,false,false,false,false] rfl rfl (any_of HT_.out (by kernel_rfl)) (fun _ _ _ h => h) (Or.inl ⟨by rfl,?_⟩) ?_ ?_
   rotate_left
   ·intro w'
    go_simp
    with_reducible rfl
   rotate_left
   ·simp only [Act.put,List.setIfInBounds_toArray,List.set_cons_zero,List.set_cons_succ,i64_w,i32_w]
    rfl
   refine pure_ (i:=7) (N:=some 29) (v:=?_) (a':=?_) #[true,true,true,true,false,false,false,true,false,false,false,false,false] rfl rfl (any_of HT_.out (by kernel_rfl)) (fun _ _ _ h => h) (Or.inl ⟨by rfl,?_⟩) ?_ ?_
   rotate_left
   ·intro w'
    go_simp
    with_reducible rfl
   rotate_left
   ·simp only [Act.put,List.setIfInBounds_toArray,List.set_cons_zero,List.set_cons_succ,i64_w,i32_w]
    rfl
   refine pure_ (i:=8) (N:=some 30) (v:=?_) (a':=?_) #[true,true,true,true,false,false,false,true,true,false,false,false,false] rfl rfl (any_of HT_.out (by kernel_rfl)) (fun _ _ _ h => h) (Or.inl ⟨by rfl,?_⟩) ?_ ?_
   rotate_left
   ·intro w'
    go_simp
    with_reducible rfl
   rotate_left
   ·simp only [Act.put,List.setIfInBounds_toArray,List.set_cons_zero,List.set_cons_succ,i64_w,i32_w]
    rfl
   refine pure_ (i:=9) (N:=some 31) (v:=?_) (a':=?_) #[true,true,true,true,false,false,false,true,true,true,false,false,false] rfl rfl (any_of HT_.out (by kernel_rfl)) (fun _ _ _ h => h) (Or.inl ⟨by rfl,?_⟩) ?_ ?_
   rotate_left
   ·intro w'
    go_simp
    with_reducible rfl
   rotate_left
   ·simp only [Act.put,List.setIfInBounds_toArray,List.set_cons_zero,List.set_cons_succ,i64_w,i32_w]
    rfl
   refine pure_ (i:=10) (N:=some 32) (v:=?_) (a':=?_) #[true,true,true,true,false,false,false,true,true,true,true,false,false] rfl rfl (any_of HT_.out (by kernel_rfl)) (fun _ _ _ h => h) (Or.inl ⟨by rfl,?_⟩) ?_ ?_
   rotate_left
   ·intro w'
    go_simp
    with_reducible rfl
   rotate_left
   ·simp only [Act.put,List.setIfInBounds_toArray,List.set_cons_zero,List.set_cons_succ,i64_w,i32_w]
    rfl
   refine take_ (i:=4) (N:=some 26) (v:=?_) (a':=?_) #[true,true,true,true,true,false,false,true,true,true,true,false,false] rfl rfl (take_ofW HT_.out HW_.out (by kernel_rfl)) (fun _ _ _ h => h) (Or.inl ⟨by rfl,?_⟩) hHeld ?_ ?_
   rotate_left
   ·rintro w' ⟨s0,s1,s2⟩
    go_simp
    with_reducible rfl
   rotate_left
   ·simp only [Act.put,List.setIfInBounds_toArray,List.set_cons_zero,List.set_cons_succ,i64_w,i32_w]
    rfl
   refine one_ (i:=5) (N:=some 27) #[true,true,true,true,true,true,false,true,true,true,true,false,false] rfl rfl (one_of HT_.out (by kernel_rfl)) (by decide) (fun K hK => ?_)
   refine goes_ Tryz.func70 (by kernel_rfl) rfl #[.int .i64 a0_2,.int .i64 4] (by rfl) rfl rfl q71_ ?_
   with_reducible refine (spec_HexOf.calls k a0_2 4 t546 _ A9.out).mono ?_
   rintro e w' ⟨rfl,⟨nd,rfl⟩⟩
   refine ⟨_,rfl,?_⟩
   refine hK.out _ _ ⟨(blk_cell BK541.out 0).trans rfl,(blk_cell BK541.out 1).trans rfl,(blk_cell BK541.out 2).trans rfl⟩ (fun hHeld => ?_)
   clear hK K
   refine norm_ (a':=?_) ?_ ?_
   rotate_left
   ·show Act.put _ (some 27) _ = _
    simp only [Act.put,List.setIfInBounds_toArray,List.set_cons_zero,List.set_cons_succ,i64_w,i32_w]
    rfl
   refine pure_ (i:=6) (N:=some 28) (v:=?_) (a':=?_) #[true,true,true,true,true,true,true,true,true,true,true,false,false] rfl rfl (any_of HT_.out (by kernel_rfl)) (fun _ _ _ h => h) (Or.inl ⟨by rfl,?_⟩) ?_ ?_
   rotate_left
   ·intro w'
    go_simp
    with_reducible rfl
   rotate_left
   ·simp only [Act.put,List.setIfInBounds_toArray,List.set_cons_zero,List.set_cons_succ,i64_w,i32_w]
    rfl
   refine pure_ (i:=11) (N:=some 33) (v:=?_) (a':=?_) #[true,true,true,true,true,true,true,true,true,true,true,true,false] rfl rfl (any_of HT_.out (by kernel_rfl)) (fun _ _ _ h => h) (Or.inl ⟨by rfl,?_⟩) ?_ ?_
   rotate_left
   ·intro w'
    go_simp
    with_reducible rfl
   rotate_left
   ·simp only [Act.put,List.setIfInBounds_toArray,List.set_cons_zero,List.set_cons_succ,i64_w,i32_w]
    rfl
   refine pure_ (i:=12) (N:=some 2) (v:=?_) (a':=?_) #[true,true,true,true,true,true,true,true,true,true,true,true,true] rfl rfl (any_of HT_.out (by kernel_rfl)) (fun _ _ _ h => h) (Or.inl ⟨by rfl,?_⟩) ?_ ?_
   rotate_left
   ·intro w'
    go_simp
    with_reducible rfl
   rotate_left
   ·simp only [Act.put,List.setIfInBounds_toArray,List.set_cons_zero,List.set_cons_succ,i64_w,i32_w]
    rfl
   refine done_ (done_of HT_.out (by kernel_rfl)) ?_
   try go_wp2
   go_ret
   exact ⟨q41_,q63_⟩
  rw [if_neg c6] at H
  have c6b0:(t545.toList == ([110,49,54]:List UInt8)) = false:=beq_eq_false_iff_ne.mpr c6
  have c6b1:(t545.toList != ([110,49,54]:List UInt8)) = true:=bne_iff_ne.mpr c6
  by_cases c22:t545.toList = ([110,56]:List UInt8)
  ·rw [if_pos c22] at H
   have c22b0:(t545.toList == ([110,56]:List UInt8)) = true:=beq_iff_eq.mpr c22
   have c22b1:(t545.toList != ([110,56]:List UInt8)) = false:=bne_eq_false_iff_eq.mpr c22
   clear c22
   by_cases c23:0 ≤ t544
   rotate_left
   ·rw [if_neg c23] at H
    exact absurd H (by simp)
   rw [if_pos c23] at H
   have c23b0:=eq_true c23
   have c23b1:=decide_eq_true c23
   clear c23
   by_cases c24:t544 ≤ (t543.size:Int)
   rotate_left
   ·rw [if_neg c24] at H
    exact absurd H (by simp)
   rw [if_pos c24] at H
   have c24b0:=eq_true c24
   have c24b1:=decide_eq_true c24
   clear c24
   replace H:=Option.bind_eq_some_iff.mp H
   obtain ⟨t547,A250,H⟩:=H
   have A25:=Aside0.mk A250
   clear A250
   by_cases c26:(t543.extract 0 (t544:Int).toNat).size + t547.size ≤ 9223372036854775807
   rotate_left
   ·rw [if_neg c26] at H
    exact absurd H (by simp)
   rw [if_pos c26] at H
   have c26b0:=eq_true c26
   (try (have c26b0e:=c26b0;simp only [ByteArray.size_append,ByteArray.size_extract,Nat.min_self,Nat.sub_zero] at c26b0e))
   (try (have c26b0f:=c26b0e;simp only [show min (t544:Int).toNat t543.size = (t544:Int).toNat from Nat.min_eq_left (by have q_:t544 ≤ (t543.size:Int):=of_decide_eq_true q109_;omega)] at c26b0f))
   have c26b1:=decide_eq_true c26
   (try (have c26b1e:=c26b1;simp only [ByteArray.size_append,ByteArray.size_extract,Nat.min_self,Nat.sub_zero] at c26b1e))
   (try (have c26b1f:=c26b1e;simp only [show min (t544:Int).toNat t543.size = (t544:Int).toNat from Nat.min_eq_left (by have q_:t544 ≤ (t543.size:Int):=of_decide_eq_true q109_;omega)] at c26b1f))
   try have c26b2:(9223372036854775807 < (t543.extract 0 (t544:Int).toNat).size + t547.size) = False:=eq_false (Nat.not_lt.2 c26)
   (try (have c26b2e:=c26b2;simp only [ByteArray.size_append,ByteArray.size_extract,Nat.min_self,Nat.sub_zero] at c26b2e))
   (try (first | (have c26b2p:=eq_true (of_decide_eq_true c26b2e)) | (have c26b2p:=eq_false (of_decide_eq_false c26b2e))))
   (try (have c26b2f:=c26b2e;simp only [show min (t544:Int).toNat t543.size = (t544:Int).toNat from Nat.min_eq_left (by have q_:t544 ≤ (t543.size:Int):=of_decide_eq_true q109_;omega)] at c26b2f))
   obtain ⟨ji27,hji27⟩:∃ j_:Int,(wrap64 (t544 + 2)) = j_:=⟨_,rfl⟩
   (first | rewrite [hji27] at H | simp only [hji27] at H)
   (try rw [hji27] at A2)
   (try rw [hji27] at A4)
   (try rw [hji27] at A5)
   (try rw [hji27] at A25)
   have hji27w:(IntKind.i64.wrap (t544 + 2)) = ji27:=(i64_w _).trans hji27
   by_cases c28:0 ≤ (ji27)
   rotate_left
   ·rw [if_neg c28] at H
    exact absurd H (by simp)
   rw [if_pos c28] at H
   have c28b0:=eq_true c28
   have c28b1:=decide_eq_true c28
   clear c28
   by_cases c29:(ji27) ≤ (t543.size:Int)
   rotate_left
   ·rw [if_neg c29] at H
    exact absurd H (by simp)
   rw [if_pos c29] at H
   have c29b0:=eq_true c29
   have c29b1:=decide_eq_true c29
   clear c29
   by_cases c30:((t543.extract 0 (t544:Int).toNat) ++ t547).size + (t543.extract ((ji27):Int).toNat t543.size).size ≤ 9223372036854775807
   rotate_left
   ·rw [if_neg c30] at H
    exact absurd H (by simp)
   rw [if_pos c30] at H
   have c30b0:=eq_true c30
   (try (have c30b0e:=c30b0;simp only [ByteArray.size_append,ByteArray.size_extract,Nat.min_self,Nat.sub_zero] at c30b0e))
   (try (have c30b0f:=c30b0e;simp only [show min (t544:Int).toNat t543.size = (t544:Int).toNat from Nat.min_eq_left (by have q_:t544 ≤ (t543.size:Int):=of_decide_eq_true q109_;omega)] at c30b0f))
   have c30b1:=decide_eq_true c30
   (try (have c30b1e:=c30b1;simp only [ByteArray.size_append,ByteArray.size_extract,Nat.min_self,Nat.sub_zero] at c30b1e))
   (try (have c30b1f:=c30b1e;simp only [show min (t544:Int).toNat t543.size = (t544:Int).toNat from Nat.min_eq_left (by have q_:t544 ≤ (t543.size:Int):=of_decide_eq_true q109_;omega)] at c30b1f))
   try have c30b2:(9223372036854775807 < ((t543.extract 0 (t544:Int).toNat) ++ t547).size + (t543.extract ((ji27):Int).toNat t543.size).size) = False:=eq_false (Nat.not_lt.2 c30)
   (try (have c30b2e:=c30b2;simp only [ByteArray.size_append,ByteArray.size_extract,Nat.min_self,Nat.sub_zero] at c30b2e))
   (try (first | (have c30b2p:=eq_true (of_decide_eq_true c30b2e)) | (have c30b2p:=eq_false (of_decide_eq_false c30b2e))))
   (try (have c30b2f:=c30b2e;simp only [show min (t544:Int).toNat t543.size = (t544:Int).toNat from Nat.min_eq_left (by have q_:t544 ≤ (t543.size:Int):=of_decide_eq_true q109_;omega)] at c30b2f))
   obtain rfl:=Option.some.inj H
   go_enter Tryz.func28,Tryz.ntmps28
   try go_wp2_with (first | ((with_reducible refine gate_dst (N:=1) rfl ?_);refine box_event ?hg (N:=1) ?hd (cs:=#[.int .i64 a0_0,.bool a0_1,.int .i64 a0_2]) (t:=30) ?hr ?_;(case hd => rfl);(case hg => rfl);(case hr => exact q139_);intro gb541 hg w31 hbox hb;have n0_:=Aside0.mk (below_step q72_ hb);have n1_:=Aside0.mk (hbox);have n2_:=Aside0.mk ((q56_:w.heap.size ≤ gb541));have n3_:=Aside0.mk ((q56_:w.heap.size ≤ gb541));clear HB;have HB:=n0_;have BK541:=n1_;have GW541:=n2_;have GE541:=n3_;clear n0_ n1_ n2_ n3_;clear hb hbox hg;have hcz32_0:w31.cell? ⟨gb541,0,none⟩ = some (.int .i64 a0_0):=(blk_cell BK541.out 0).trans rfl;have hcz32_1:w31.cell? ⟨gb541,1,none⟩ = some (.bool a0_1):=(blk_cell BK541.out 1).trans rfl;have hcz32_2:w31.cell? ⟨gb541,2,none⟩ = some (.int .i64 a0_2):=(blk_cell BK541.out 2).trans rfl;have hfz32_0:=blk_frozen BK541.out 0;have hfz32_1:=blk_frozen BK541.out 1;have hfz32_2:=blk_frozen BK541.out 2) | ((with_reducible refine gate_callee (f:=21) rfl ?_);refine goesL_ (some 7) rfl rfl Tryz.func21 (by kernel_rfl) rfl #[.agg #[.int .i64 a0_0,.bool a0_1,.int .i64 a0_2]] rfl q71_ ?_;(with_reducible refine (spec_InsOk.calls k a0_0 a0_1 a0_2 true _ A2.out).mono ?_);rintro e w33 ⟨rfl,hb⟩;refine ⟨_,rfl,?_⟩;have n0_:=Aside0.mk (blk_below (g:=gb541) (o:=.cells #[.int .i64 a0_0,.bool a0_1,.int .i64 a0_2] 30 (0,0)) q84_ hb);have n1_:=Aside0.mk (below_step q63_ hb);clear BK541;clear HB;have BK541:=n0_;have HB:=n1_;clear n0_ n1_;(try clear hb);have hcz34_0:w33.cell? ⟨gb541,0,none⟩ = some (.int .i64 a0_0):=(blk_cell BK541.out 0).trans rfl;have hcz34_1:w33.cell? ⟨gb541,1,none⟩ = some (.bool a0_1):=(blk_cell BK541.out 1).trans rfl;have hcz34_2:w33.cell? ⟨gb541,2,none⟩ = some (.int .i64 a0_2):=(blk_cell BK541.out 2).trans rfl;have hfz34_0:=blk_frozen BK541.out 0;have hfz34_1:=blk_frozen BK541.out 1;have hfz34_2:=blk_frozen BK541.out 2) | ((with_reducible refine gate_callee (f:=60) rfl ?_);refine goesL_ (some 13) rfl rfl Tryz.func60 (by kernel_rfl) rfl #[.int .i64 a0_0,.bool a0_1] rfl q71_ ?_;(with_reducible refine (spec_l3Template.calls k a0_0 a0_1 t543 _ A4.out).mono ?_);rintro e w35 ⟨rfl,hb⟩;refine ⟨_,rfl,?_⟩;have n0_:=Aside0.mk (blk_below (g:=gb541) (o:=.cells #[.int .i64 a0_0,.bool a0_1,.int .i64 a0_2] 30 (0,0)) q84_ hb);have n1_:=Aside0.mk (below_step q63_ hb);clear BK541;clear HB;have BK541:=n0_;have HB:=n1_;clear n0_ n1_;(try clear hb)) | ((with_reducible refine gate_callee (f:=59) rfl ?_);refine goesL_ (some 16) rfl rfl Tryz.func59 (by kernel_rfl) rfl #[.string t543] rfl q71_ ?_;(with_reducible refine (spec_l3Hole.calls k t543 t544 t545 _ A5.out).mono ?_);rintro e w36 ⟨rfl,hb⟩;refine ⟨_,rfl,?_⟩;have n0_:=Aside0.mk (blk_below (g:=gb541) (o:=.cells #[.int .i64 a0_0,.bool a0_1,.int .i64 a0_2] 30 (0,0)) q84_ hb);have n1_:=Aside0.mk (below_step q63_ hb);clear BK541;clear HB;have BK541:=n0_;have HB:=n1_;clear n0_ n1_;(try clear hb)))
   have n0_:=Aside0.mk (blk_drew BK541.out)
   have n1_:=Aside0.mk (below_drew1 HB.out)
   clear BK541
   clear HB
   have BK541:=n0_
   have HB:=n1_
   clear n0_ n1_
   refine start_ (n:=13) (S:=fun w' => w'.cell? ⟨gb541,0,none⟩ = some (.int .i64 a0_0) ∧ w'.cell? ⟨gb541,1,none⟩ = some (.bool a0_1) ∧ w'.cell? ⟨gb541,2,none⟩ = some (.int .i64 a0_2)) (ds:=[]) #[false,false,false,false,false,false,false,false,false,false,false,false,false] (by kernel_rfl) rfl rfl ⟨(blk_cell BK541.out 0).trans rfl,(blk_cell BK541.out 1).trans rfl,(blk_cell BK541.out 2).trans rfl⟩ (fun hHeld => ?_);refine with_tabW spec_InsText.tab9 spec_InsText.bits9 (fun HT_ HW_ => ?_)
   generalize w36.drew = w37 at BK541 HB hHeld ⊢
   refine pure_ (i:=0) (N:=some 36) (v:=?_) (a':=?_) #[true,false,false,false,false,false,false,false,false,false,false,false,false] rfl rfl (any_of HT_.out (by kernel_rfl)) (fun _ _ _ h => h) (Or.inl ⟨by rfl,?_⟩) ?_ ?_
   rotate_left
   ·intro w'
    go_simp
    with_reducible rfl
   rotate_left
   ·simp only [Act.put,List.setIfInBounds_toArray,List.set_cons_zero,List.set_cons_succ,i64_w,i32_w]
    rfl
   refine pure_ (i:=1) (N:=some 37) (v:=?_) (a':=?_) #[true,true,false,false,false,false,false,false,false,false,false,false,false] rfl rfl (any_of HT_.out (by kernel_rfl)) (fun _ _ _ h => h) (Or.inl ⟨by rfl,?_⟩) ?_ ?_
   rotate_left
   ·intro w'
    go_simp
    with_reducible rfl
   rotate_left
   ·simp only [Act.put,List.setIfInBounds_toArray,List.set_cons_zero,List.set_cons_succ,i64_w,i32_w]
    rfl
   refine pure_ (i:=2) (N:=some 38) (v:=?_) (a':=?_) #[true,true,true,false,false,false,false,false,false,false,false,false,false] rfl rfl (any_of HT_.out (by kernel_rfl)) (fun _ _ _ h => h) (Or.inl ⟨by rfl,?_⟩) ?_ ?_
   rotate_left
   ·intro w'
    go_simp
    with_reducible rfl
   rotate_left
   ·simp only [Act.put,List.setIfInBounds_toArray,List.set_cons_zero,List.set_cons_succ,i64_w,i32_w]
    rfl
   refine pure_ (i:=3) (N:=some 39) (v:=?_) (a':=?_) #[true,true,true,true,false,false,false,false,false,false,false,false,false] rfl rfl (any_of HT_.out (by kernel_rfl)) (fun _ _ _ h => h) (Or.inl ⟨by rfl,?_⟩) ?_ ?_
   rotate_left
   ·intro w'
    go_simp
    with_reducible rfl
   rotate_left
   ·simp only [Act.put,List.setIfInBounds_toArray,List.set_cons_zero,List.set_cons_succ,i64_w,i32_w]
    rfl
   refine pure_ (i:=7) (N:=some 43) (v:=?_) (a':=?_) #[true,true,true,true,false,false,false,true,false,false,false,false,false] rfl rfl (any_of HT_.out (by kernel_rfl)) (fun _ _ _ h => h) (Or.inl ⟨by rfl,?_⟩) ?_ ?_
   rotate_left
   ·intro w'
    go_simp
    with_reducible rfl
   rotate_left
   ·simp only [Act.put,List.setIfInBounds_toArray,List.set_cons_zero,List.set_cons_succ,i64_w,i32_w]
    rfl
   refine pure_ (i:=8) (N:=some 44) (v:=?_) (a':=?_) #[true,true,true,true,false,false,false,true,true,false,false,false,false] rfl rfl (any_of HT_.out (by kernel_rfl)) (fun _ _ _ h => h) (Or.inl ⟨by rfl,?_⟩) ?_ ?_
   rotate_left
   ·intro w'
    go_simp
    with_reducible rfl
   rotate_left
   ·simp only [Act.put,List.setIfInBounds_toArray,List.set_cons_zero,List.set_cons_succ,i64_w,i32_w]
    rfl
   refine pure_ (i:=9) (N:=some 45) (v:=?_) (a':=?_) #[true,true,true,true,false,false,false,true,true,true,false,false,false] rfl rfl (any_of HT_.out (by kernel_rfl)) (fun _ _ _ h => h) (Or.inl ⟨by rfl,?_⟩) ?_ ?_
   rotate_left
   ·intro w'
    go_simp
    with_reducible rfl
   rotate_left
   ·simp only [Act.put,List.setIfInBounds_toArray,List.set_cons_zero,List.set_cons_succ,i64_w,i32_w]
    rfl
   refine pure_ (i:=10) (N:=some 46) (v:=?_) (a':=?_) #[true,true,true,true,false,false,false,true,true,true,true,false,false] rfl rfl (any_of HT_.out (by kernel_rfl)) (fun _ _ _ h => h) (Or.inl ⟨by rfl,?_⟩) ?_ ?_
   rotate_left
   ·intro w'
    go_simp
    with_reducible rfl
   rotate_left
   ·simp only [Act.put,List.setIfInBounds_toArray,List.set_cons_zero,List.set_cons_succ,i64_w,i32_w]
    rfl
   refine take_ (i:=4) (N:=some 40) (v:=?_) (a':=?_) #[true,true,true,true,true,false,false,true,true,true,true,false,false] rfl rfl (take_ofW HT_.out HW_.out (by kernel_rfl)) (fun _ _ _ h => h) (Or.inl ⟨by rfl,?_⟩) hHeld ?_ ?_
   rotate_left
   ·rintro w' ⟨s0,s1,s2⟩
    go_simp
    with_reducible rfl
   rotate_left
   ·simp only [Act.put,List.setIfInBounds_toArray,List.set_cons_zero,List.set_cons_succ,i64_w,i32_w]
    rfl
   refine one_ (i:=5) (N:=some 41) #[true,true,true,true,true,true,false,true,true,true,true,false,false] rfl rfl (one_of HT_.out (by kernel_rfl)) (by decide) (fun K hK => ?_)
   refine goes_ Tryz.func70 (by kernel_rfl) rfl #[.int .i64 a0_2,.int .i64 2] (by rfl) rfl rfl q71_ ?_
   with_reducible refine (spec_HexOf.calls k a0_2 2 t547 _ A25.out).mono ?_
   rintro e w' ⟨rfl,⟨nd,rfl⟩⟩
   refine ⟨_,rfl,?_⟩
   refine hK.out _ _ ⟨(blk_cell BK541.out 0).trans rfl,(blk_cell BK541.out 1).trans rfl,(blk_cell BK541.out 2).trans rfl⟩ (fun hHeld => ?_)
   clear hK K
   refine norm_ (a':=?_) ?_ ?_
   rotate_left
   ·show Act.put _ (some 41) _ = _
    simp only [Act.put,List.setIfInBounds_toArray,List.set_cons_zero,List.set_cons_succ,i64_w,i32_w]
    rfl
   refine pure_ (i:=6) (N:=some 42) (v:=?_) (a':=?_) #[true,true,true,true,true,true,true,true,true,true,true,false,false] rfl rfl (any_of HT_.out (by kernel_rfl)) (fun _ _ _ h => h) (Or.inl ⟨by rfl,?_⟩) ?_ ?_
   rotate_left
   ·intro w'
    go_simp
    with_reducible rfl
   rotate_left
   ·simp only [Act.put,List.setIfInBounds_toArray,List.set_cons_zero,List.set_cons_succ,i64_w,i32_w]
    rfl
   refine pure_ (i:=11) (N:=some 47) (v:=?_) (a':=?_) #[true,true,true,true,true,true,true,true,true,true,true,true,false] rfl rfl (any_of HT_.out (by kernel_rfl)) (fun _ _ _ h => h) (Or.inl ⟨by rfl,?_⟩) ?_ ?_
   rotate_left
   ·intro w'
    go_simp
    with_reducible rfl
   rotate_left
   ·simp only [Act.put,List.setIfInBounds_toArray,List.set_cons_zero,List.set_cons_succ,i64_w,i32_w]
    rfl
   refine pure_ (i:=12) (N:=some 2) (v:=?_) (a':=?_) #[true,true,true,true,true,true,true,true,true,true,true,true,true] rfl rfl (any_of HT_.out (by kernel_rfl)) (fun _ _ _ h => h) (Or.inl ⟨by rfl,?_⟩) ?_ ?_
   rotate_left
   ·intro w'
    go_simp
    with_reducible rfl
   rotate_left
   ·simp only [Act.put,List.setIfInBounds_toArray,List.set_cons_zero,List.set_cons_succ,i64_w,i32_w]
    rfl
   refine done_ (done_of HT_.out (by kernel_rfl)) ?_
   try go_wp2
   go_ret
   exact ⟨by first | rfl | (simp [errW_none,errW_some] <;> rfl) | (simp only [← hji27];first | rfl | (simp [errW_none,errW_some] <;> rfl)) | (simp [*,errW_none,errW_some] <;> rfl) | (exfalso;simp_all;done),q63_⟩
  rw [if_neg c22] at H
  have c22b0:(t545.toList == ([110,56]:List UInt8)) = false:=beq_eq_false_iff_ne.mpr c22
  have c22b1:(t545.toList != ([110,56]:List UInt8)) = true:=bne_iff_ne.mpr c22
  by_cases c38:t545.toList = ([101,56]:List UInt8)
  ·rw [if_pos c38] at H
   have c38b0:(t545.toList == ([101,56]:List UInt8)) = true:=beq_iff_eq.mpr c38
   have c38b1:(t545.toList != ([101,56]:List UInt8)) = false:=bne_eq_false_iff_eq.mpr c38
   clear c38
   by_cases c39:0 ≤ t544
   rotate_left
   ·rw [if_neg c39] at H
    exact absurd H (by simp)
   rw [if_pos c39] at H
   have c39b0:=eq_true c39
   have c39b1:=decide_eq_true c39
   clear c39
   by_cases c40:t544 ≤ (t543.size:Int)
   rotate_left
   ·rw [if_neg c40] at H
    exact absurd H (by simp)
   rw [if_pos c40] at H
   have c40b0:=eq_true c40
   have c40b1:=decide_eq_true c40
   clear c40
   replace H:=Option.bind_eq_some_iff.mp H
   obtain ⟨t548,A410,H⟩:=H
   have A41:=Aside0.mk A410
   clear A410
   replace H:=Option.bind_eq_some_iff.mp H
   obtain ⟨t549,A420,H⟩:=H
   have A42:=Aside0.mk A420
   clear A420
   by_cases c43:(t543.extract 0 (t544:Int).toNat).size + t549.size ≤ 9223372036854775807
   rotate_left
   ·rw [if_neg c43] at H
    exact absurd H (by simp)
   rw [if_pos c43] at H
   have c43b0:=eq_true c43
   (try (have c43b0e:=c43b0;simp only [ByteArray.size_append,ByteArray.size_extract,Nat.min_self,Nat.sub_zero] at c43b0e))
   (try (have c43b0f:=c43b0e;simp only [show min (t544:Int).toNat t543.size = (t544:Int).toNat from Nat.min_eq_left (by have q_:t544 ≤ (t543.size:Int):=of_decide_eq_true q109_;omega)] at c43b0f))
   have c43b1:=decide_eq_true c43
   (try (have c43b1e:=c43b1;simp only [ByteArray.size_append,ByteArray.size_extract,Nat.min_self,Nat.sub_zero] at c43b1e))
   (try (have c43b1f:=c43b1e;simp only [show min (t544:Int).toNat t543.size = (t544:Int).toNat from Nat.min_eq_left (by have q_:t544 ≤ (t543.size:Int):=of_decide_eq_true q109_;omega)] at c43b1f))
   try have c43b2:(9223372036854775807 < (t543.extract 0 (t544:Int).toNat).size + t549.size) = False:=eq_false (Nat.not_lt.2 c43)
   (try (have c43b2e:=c43b2;simp only [ByteArray.size_append,ByteArray.size_extract,Nat.min_self,Nat.sub_zero] at c43b2e))
   (try (first | (have c43b2p:=eq_true (of_decide_eq_true c43b2e)) | (have c43b2p:=eq_false (of_decide_eq_false c43b2e))))
   (try (have c43b2f:=c43b2e;simp only [show min (t544:Int).toNat t543.size = (t544:Int).toNat from Nat.min_eq_left (by have q_:t544 ≤ (t543.size:Int):=of_decide_eq_true q109_;omega)] at c43b2f))
   obtain ⟨ji44,hji44⟩:∃ j_:Int,(wrap64 (t544 + 2)) = j_:=⟨_,rfl⟩
   (first | rewrite [hji44] at H | simp only [hji44] at H)
   (try rw [hji44] at A2)
   (try rw [hji44] at A4)
   (try rw [hji44] at A5)
   (try rw [hji44] at A41)
   (try rw [hji44] at A42)
   have hji44w:(IntKind.i64.wrap (t544 + 2)) = ji44:=(i64_w _).trans hji44
   by_cases c45:0 ≤ (ji44)
   rotate_left
   ·rw [if_neg c45] at H
    exact absurd H (by simp)
   rw [if_pos c45] at H
   have c45b0:=eq_true c45
   have c45b1:=decide_eq_true c45
   clear c45
   by_cases c46:(ji44) ≤ (t543.size:Int)
   rotate_left
   ·rw [if_neg c46] at H
    exact absurd H (by simp)
   rw [if_pos c46] at H
   have c46b0:=eq_true c46
   have c46b1:=decide_eq_true c46
   clear c46
   by_cases c47:((t543.extract 0 (t544:Int).toNat) ++ t549).size + (t543.extract ((ji44):Int).toNat t543.size).size ≤ 9223372036854775807
   rotate_left
   ·rw [if_neg c47] at H
    exact absurd H (by simp)
   rw [if_pos c47] at H
   have c47b0:=eq_true c47
   (try (have c47b0e:=c47b0;simp only [ByteArray.size_append,ByteArray.size_extract,Nat.min_self,Nat.sub_zero] at c47b0e))
   (try (have c47b0f:=c47b0e;simp only [show min (t544:Int).toNat t543.size = (t544:Int).toNat from Nat.min_eq_left (by have q_:t544 ≤ (t543.size:Int):=of_decide_eq_true q109_;omega)] at c47b0f))
   have c47b1:=decide_eq_true c47
   (try (have c47b1e:=c47b1;simp only [ByteArray.size_append,ByteArray.size_extract,Nat.min_self,Nat.sub_zero] at c47b1e))
   (try (have c47b1f:=c47b1e;simp only [show min (t544:Int).toNat t543.size = (t544:Int).toNat from Nat.min_eq_left (by have q_:t544 ≤ (t543.size:Int):=of_decide_eq_true q109_;omega)] at c47b1f))
   try have c47b2:(9223372036854775807 < ((t543.extract 0 (t544:Int).toNat) ++ t549).size + (t543.extract ((ji44):Int).toNat t543.size).size) = False:=eq_false (Nat.not_lt.2 c47)
   (try (have c47b2e:=c47b2;simp only [ByteArray.size_append,ByteArray.size_extract,Nat.min_self,Nat.sub_zero] at c47b2e))
   (try (first | (have c47b2p:=eq_true (of_decide_eq_true c47b2e)) | (have c47b2p:=eq_false (of_decide_eq_false c47b2e))))
   (try (have c47b2f:=c47b2e;simp only [show min (t544:Int).toNat t543.size = (t544:Int).toNat from Nat.min_eq_left (by have q_:t544 ≤ (t543.size:Int):=of_decide_eq_true q109_;omega)] at c47b2f))
   obtain rfl:=Option.some.inj H
   go_enter Tryz.func28,Tryz.ntmps28
   try go_wp2_with (first | ((with_reducible refine gate_dst (N:=1) rfl ?_);refine box_event ?hg (N:=1) ?hd (cs:=#[.int .i64 a0_0,.bool a0_1,.int .i64 a0_2]) (t:=30) ?hr ?_;(case hd => rfl);(case hg => rfl);(case hr => exact q139_);intro gb541 hg w48 hbox hb;have n0_:=Aside0.mk (below_step q72_ hb);have n1_:=Aside0.mk (hbox);have n2_:=Aside0.mk ((q56_:w.heap.size ≤ gb541));have n3_:=Aside0.mk ((q56_:w.heap.size ≤ gb541));clear HB;have HB:=n0_;have BK541:=n1_;have GW541:=n2_;have GE541:=n3_;clear n0_ n1_ n2_ n3_;clear hb hbox hg;have hcz49_0:w48.cell? ⟨gb541,0,none⟩ = some (.int .i64 a0_0):=(blk_cell BK541.out 0).trans rfl;have hcz49_1:w48.cell? ⟨gb541,1,none⟩ = some (.bool a0_1):=(blk_cell BK541.out 1).trans rfl;have hcz49_2:w48.cell? ⟨gb541,2,none⟩ = some (.int .i64 a0_2):=(blk_cell BK541.out 2).trans rfl;have hfz49_0:=blk_frozen BK541.out 0;have hfz49_1:=blk_frozen BK541.out 1;have hfz49_2:=blk_frozen BK541.out 2) | ((with_reducible refine gate_callee (f:=21) rfl ?_);refine goesL_ (some 7) rfl rfl Tryz.func21 (by kernel_rfl) rfl #[.agg #[.int .i64 a0_0,.bool a0_1,.int .i64 a0_2]] rfl q71_ ?_;(with_reducible refine (spec_InsOk.calls k a0_0 a0_1 a0_2 true _ A2.out).mono ?_);rintro e w50 ⟨rfl,hb⟩;refine ⟨_,rfl,?_⟩;have n0_:=Aside0.mk (blk_below (g:=gb541) (o:=.cells #[.int .i64 a0_0,.bool a0_1,.int .i64 a0_2] 30 (0,0)) q84_ hb);have n1_:=Aside0.mk (below_step q63_ hb);clear BK541;clear HB;have BK541:=n0_;have HB:=n1_;clear n0_ n1_;(try clear hb);have hcz51_0:w50.cell? ⟨gb541,0,none⟩ = some (.int .i64 a0_0):=(blk_cell BK541.out 0).trans rfl;have hcz51_1:w50.cell? ⟨gb541,1,none⟩ = some (.bool a0_1):=(blk_cell BK541.out 1).trans rfl;have hcz51_2:w50.cell? ⟨gb541,2,none⟩ = some (.int .i64 a0_2):=(blk_cell BK541.out 2).trans rfl;have hfz51_0:=blk_frozen BK541.out 0;have hfz51_1:=blk_frozen BK541.out 1;have hfz51_2:=blk_frozen BK541.out 2) | ((with_reducible refine gate_callee (f:=60) rfl ?_);refine goesL_ (some 13) rfl rfl Tryz.func60 (by kernel_rfl) rfl #[.int .i64 a0_0,.bool a0_1] rfl q71_ ?_;(with_reducible refine (spec_l3Template.calls k a0_0 a0_1 t543 _ A4.out).mono ?_);rintro e w52 ⟨rfl,hb⟩;refine ⟨_,rfl,?_⟩;have n0_:=Aside0.mk (blk_below (g:=gb541) (o:=.cells #[.int .i64 a0_0,.bool a0_1,.int .i64 a0_2] 30 (0,0)) q84_ hb);have n1_:=Aside0.mk (below_step q63_ hb);clear BK541;clear HB;have BK541:=n0_;have HB:=n1_;clear n0_ n1_;(try clear hb)) | ((with_reducible refine gate_callee (f:=59) rfl ?_);refine goesL_ (some 16) rfl rfl Tryz.func59 (by kernel_rfl) rfl #[.string t543] rfl q71_ ?_;(with_reducible refine (spec_l3Hole.calls k t543 t544 t545 _ A5.out).mono ?_);rintro e w53 ⟨rfl,hb⟩;refine ⟨_,rfl,?_⟩;have n0_:=Aside0.mk (blk_below (g:=gb541) (o:=.cells #[.int .i64 a0_0,.bool a0_1,.int .i64 a0_2] 30 (0,0)) q84_ hb);have n1_:=Aside0.mk (below_step q63_ hb);clear BK541;clear HB;have BK541:=n0_;have HB:=n1_;clear n0_ n1_;(try clear hb)))
   have n0_:=Aside0.mk (blk_drew BK541.out)
   have n1_:=Aside0.mk (below_drew1 HB.out)
   clear BK541
   clear HB
   have BK541:=n0_
   have HB:=n1_
   clear n0_ n1_
   refine start_ (n:=14) (S:=fun w' => w'.cell? ⟨gb541,0,none⟩ = some (.int .i64 a0_0) ∧ w'.cell? ⟨gb541,1,none⟩ = some (.bool a0_1) ∧ w'.cell? ⟨gb541,2,none⟩ = some (.int .i64 a0_2)) (ds:=[]) #[false,false,false,false,false,false,false,false,false,false,false,false,false,false] (by kernel_rfl) rfl rfl ⟨(blk_cell BK541.out 0).trans rfl,(blk_cell BK541.out 1).trans rfl,(blk_cell BK541.out 2).trans rfl⟩ (fun hHeld => ?_);refine with_tabW spec_InsText.tab11 spec_InsText.bits11 (fun HT_ HW_ => ?_)
   generalize w53.drew = w54 at BK541 HB hHeld ⊢
   refine pure_ (i:=0) (N:=some 50) (v:=?_) (a':=?_) #[true,false,false,false,false,false,false,false,false,false,false,false,false,false] rfl rfl (any_of HT_.out (by kernel_rfl)) (fun _ _ _ h => h) (Or.inl ⟨by rfl,?_⟩) ?_ ?_
   rotate_left
   ·intro w'
    go_simp
    with_reducible rfl
   rotate_left
   ·simp only [Act.put,List.setIfInBounds_toArray,List.set_cons_zero,List.set_cons_succ,i64_w,i32_w]
    rfl
   refine pure_ (i:=1) (N:=some 51) (v:=?_) (a':=?_) #[true,true,false,false,false,false,false,false,false,false,false,false,false,false] rfl rfl (any_of HT_.out (by kernel_rfl)) (fun _ _ _ h => h) (Or.inl ⟨by rfl,?_⟩) ?_ ?_
   rotate_left
   ·intro w'
    go_simp
    with_reducible rfl
   rotate_left
   ·simp only [Act.put,List.setIfInBounds_toArray,List.set_cons_zero,List.set_cons_succ,i64_w,i32_w]
    rfl
   refine pure_ (i:=2) (N:=some 52) (v:=?_) (a':=?_) #[true,true,true,false,false,false,false,false,false,false,false,false,false,false] rfl rfl (any_of HT_.out (by kernel_rfl)) (fun _ _ _ h => h) (Or.inl ⟨by rfl,?_⟩) ?_ ?_
   rotate_left
   ·intro w'
    go_simp
    with_reducible rfl
   rotate_left
   ·simp only [Act.put,List.setIfInBounds_toArray,List.set_cons_zero,List.set_cons_succ,i64_w,i32_w]
    rfl
   refine pure_ (i:=3) (N:=some 53) (v:=?_) (a':=?_) #[true,true,true,true,false,false,false,false,false,false,false,false,false,false] rfl rfl (any_of HT_.out (by kernel_rfl)) (fun _ _ _ h => h) (Or.inl ⟨by rfl,?_⟩) ?_ ?_
   rotate_left
   ·intro w'
    go_simp
    with_reducible rfl
   rotate_left
   ·simp only [Act.put,List.setIfInBounds_toArray,List.set_cons_zero,List.set_cons_succ,i64_w,i32_w]
    rfl
   refine pure_ (i:=8) (N:=some 58) (v:=?_) (a':=?_) #[true,true,true,true,false,false,false,false,true,false,false,false,false,false] rfl rfl (any_of HT_.out (by kernel_rfl)) (fun _ _ _ h => h) (Or.inl ⟨by rfl,?_⟩) ?_ ?_
   rotate_left
   ·intro w'
    go_simp
    with_reducible rfl
   rotate_left
   ·simp only [Act.put,List.setIfInBounds_toArray,List.set_cons_zero,List.set_cons_succ,i64_w,i32_w]
    rfl
   refine pure_ (i:=9) (N:=some 59) (v:=?_) (a':=?_) #[true,true,true,true,false,false,false,false,true,true,false,false,false,false] rfl rfl (any_of HT_.out (by kernel_rfl)) (fun _ _ _ h => h) (Or.inl ⟨by rfl,?_⟩) ?_ ?_
   rotate_left
   ·intro w'
    go_simp
    with_reducible rfl
   rotate_left
   ·simp only [Act.put,List.setIfInBounds_toArray,List.set_cons_zero,List.set_cons_succ,i64_w,i32_w]
    rfl
   refine pure_ (i:=10) (N:=some 60) (v:=?_) (a':=?_) #[true,true,true,true,false,false,false,false,true,true,true,false,false,false] rfl rfl (any_of HT_.out (by kernel_rfl)) (fun _ _ _ h => h) (Or.inl ⟨by rfl,?_⟩) ?_ ?_
   rotate_left
   ·intro w'
    go_simp
    with_reducible rfl
   rotate_left
   ·simp only [Act.put,List.setIfInBounds_toArray,List.set_cons_zero,List.set_cons_succ,i64_w,i32_w]
    rfl
   refine pure_ (i:=11) (N:=some 61) (v:=?_) (a':=?_) #[true,true,true,true,false,false,false,false,true,true,true,true,false,false] rfl rfl (any_of HT_.out (by kernel_rfl)) (fun _ _ _ h => h) (Or.inl ⟨by rfl,?_⟩) ?_ ?_
   rotate_left
   ·intro w'
    go_simp
    with_reducible rfl
   rotate_left
   ·simp only [Act.put,List.setIfInBounds_toArray,List.set_cons_zero,List.set_cons_succ,i64_w,i32_w]
    rfl
   refine take_ (i:=4) (N:=some 54) (v:=?_) (a':=?_) #[true,true,true,true,true,false,false,false,true,true,true,true,false,false] rfl rfl (take_ofW HT_.out HW_.out (by kernel_rfl)) (fun _ _ _ h => h) (Or.inl ⟨by rfl,?_⟩) hHeld ?_ ?_
   rotate_left
   ·rintro w' ⟨s0,s1,s2⟩
    go_simp
    with_reducible rfl
   rotate_left
   ·simp only [Act.put,List.setIfInBounds_toArray,List.set_cons_zero,List.set_cons_succ,i64_w,i32_w]
    rfl
   refine one_ (i:=5) (N:=some 55) #[true,true,true,true,true,true,false,false,true,true,true,true,false,false] rfl rfl (one_of HT_.out (by kernel_rfl)) (by decide) (fun K hK => ?_)
   refine goes_ Tryz.func72 (by kernel_rfl) rfl #[.int .i64 a0_2] (by rfl) rfl rfl q71_ ?_
   with_reducible refine (spec_SignedOf.calls a0_2 t548 _ A41.out).mono ?_
   rintro e w' ⟨rfl,⟨nd,rfl⟩⟩
   refine ⟨_,rfl,?_⟩
   refine hK.out _ _ ⟨(blk_cell BK541.out 0).trans rfl,(blk_cell BK541.out 1).trans rfl,(blk_cell BK541.out 2).trans rfl⟩ (fun hHeld => ?_)
   clear hK K
   refine norm_ (a':=?_) ?_ ?_
   rotate_left
   ·show Act.put _ (some 55) _ = _
    simp only [Act.put,List.setIfInBounds_toArray,List.set_cons_zero,List.set_cons_succ,i64_w,i32_w]
    rfl
   refine one_ (i:=6) (N:=some 56) #[true,true,true,true,true,true,true,false,true,true,true,true,false,false] rfl rfl (one_of HT_.out (by kernel_rfl)) (by decide) (fun K hK => ?_)
   refine goes_ Tryz.func71 (by kernel_rfl) rfl #[.int .i64 t548] (by rfl) rfl rfl q71_ ?_
   with_reducible refine (spec_l1Dec.calls k t548 t549 _ A42.out).mono ?_
   rintro e w55 ⟨rfl,hb⟩
   refine ⟨_,rfl,?_⟩
   have n0_:=Aside0.mk (blk_below (g:=gb541) (o:=.cells #[.int .i64 a0_0,.bool a0_1,.int .i64 a0_2] 30 (0,0)) q84_ hb)
   have n1_:=Aside0.mk (below_step q63_ hb)
   clear BK541
   clear HB
   have BK541:=n0_
   have HB:=n1_
   clear n0_ n1_
   (try clear hb)
   (try clear hb2)
   (try clear hk)
   (try clear hi)
   refine hK.out _ _ ⟨(blk_cell BK541.out 0).trans rfl,(blk_cell BK541.out 1).trans rfl,(blk_cell BK541.out 2).trans rfl⟩ (fun hHeld => ?_)
   clear hK K
   refine norm_ (a':=?_) ?_ ?_
   rotate_left
   ·show Act.put _ (some 56) _ = _
    simp only [Act.put,List.setIfInBounds_toArray,List.set_cons_zero,List.set_cons_succ,i64_w,i32_w]
    rfl
   refine pure_ (i:=7) (N:=some 57) (v:=?_) (a':=?_) #[true,true,true,true,true,true,true,true,true,true,true,true,false,false] rfl rfl (any_of HT_.out (by kernel_rfl)) (fun _ _ _ h => h) (Or.inl ⟨by rfl,?_⟩) ?_ ?_
   rotate_left
   ·intro w'
    go_simp
    with_reducible rfl
   rotate_left
   ·simp only [Act.put,List.setIfInBounds_toArray,List.set_cons_zero,List.set_cons_succ,i64_w,i32_w]
    rfl
   refine pure_ (i:=12) (N:=some 62) (v:=?_) (a':=?_) #[true,true,true,true,true,true,true,true,true,true,true,true,true,false] rfl rfl (any_of HT_.out (by kernel_rfl)) (fun _ _ _ h => h) (Or.inl ⟨by rfl,?_⟩) ?_ ?_
   rotate_left
   ·intro w'
    go_simp
    with_reducible rfl
   rotate_left
   ·simp only [Act.put,List.setIfInBounds_toArray,List.set_cons_zero,List.set_cons_succ,i64_w,i32_w]
    rfl
   refine pure_ (i:=13) (N:=some 2) (v:=?_) (a':=?_) #[true,true,true,true,true,true,true,true,true,true,true,true,true,true] rfl rfl (any_of HT_.out (by kernel_rfl)) (fun _ _ _ h => h) (Or.inl ⟨by rfl,?_⟩) ?_ ?_
   rotate_left
   ·intro w'
    go_simp
    with_reducible rfl
   rotate_left
   ·simp only [Act.put,List.setIfInBounds_toArray,List.set_cons_zero,List.set_cons_succ,i64_w,i32_w]
    rfl
   refine done_ (done_of HT_.out (by kernel_rfl)) ?_
   try go_wp2
   go_ret
   exact ⟨by first | rfl | (simp [errW_none,errW_some] <;> rfl) | (simp only [← hji44];first | rfl | (simp [errW_none,errW_some] <;> rfl)) | (simp [*,errW_none,errW_some] <;> rfl) | (exfalso;simp_all;done),q63_⟩
  rw [if_neg c38] at H
  have c38b0:(t545.toList == ([101,56]:List UInt8)) = false:=beq_eq_false_iff_ne.mpr c38
  have c38b1:(t545.toList != ([101,56]:List UInt8)) = true:=bne_iff_ne.mpr c38
  obtain rfl:=Option.some.inj H
  go_enter Tryz.func28,Tryz.ntmps28
  go_wp2_with (first | ((with_reducible refine gate_dst (N:=1) rfl ?_);refine box_event ?hg (N:=1) ?hd (cs:=#[.int .i64 a0_0,.bool a0_1,.int .i64 a0_2]) (t:=30) ?hr ?_;(case hd => rfl);(case hg => rfl);(case hr => exact q139_);intro gb541 hg w56 hbox hb;have n0_:=Aside0.mk (below_step q72_ hb);have n1_:=Aside0.mk (hbox);have n2_:=Aside0.mk ((q56_:w.heap.size ≤ gb541));have n3_:=Aside0.mk ((q56_:w.heap.size ≤ gb541));clear HB;have HB:=n0_;have BK541:=n1_;have GW541:=n2_;have GE541:=n3_;clear n0_ n1_ n2_ n3_;clear hb hbox hg;have hcz57_0:w56.cell? ⟨gb541,0,none⟩ = some (.int .i64 a0_0):=(blk_cell BK541.out 0).trans rfl;have hcz57_1:w56.cell? ⟨gb541,1,none⟩ = some (.bool a0_1):=(blk_cell BK541.out 1).trans rfl;have hcz57_2:w56.cell? ⟨gb541,2,none⟩ = some (.int .i64 a0_2):=(blk_cell BK541.out 2).trans rfl;have hfz57_0:=blk_frozen BK541.out 0;have hfz57_1:=blk_frozen BK541.out 1;have hfz57_2:=blk_frozen BK541.out 2) | ((with_reducible refine gate_callee (f:=21) rfl ?_);refine goesL_ (some 7) rfl rfl Tryz.func21 (by kernel_rfl) rfl #[.agg #[.int .i64 a0_0,.bool a0_1,.int .i64 a0_2]] rfl q71_ ?_;(with_reducible refine (spec_InsOk.calls k a0_0 a0_1 a0_2 true _ A2.out).mono ?_);rintro e w58 ⟨rfl,hb⟩;refine ⟨_,rfl,?_⟩;have n0_:=Aside0.mk (blk_below (g:=gb541) (o:=.cells #[.int .i64 a0_0,.bool a0_1,.int .i64 a0_2] 30 (0,0)) q84_ hb);have n1_:=Aside0.mk (below_step q63_ hb);clear BK541;clear HB;have BK541:=n0_;have HB:=n1_;clear n0_ n1_;(try clear hb);have hcz59_0:w58.cell? ⟨gb541,0,none⟩ = some (.int .i64 a0_0):=(blk_cell BK541.out 0).trans rfl;have hcz59_1:w58.cell? ⟨gb541,1,none⟩ = some (.bool a0_1):=(blk_cell BK541.out 1).trans rfl;have hcz59_2:w58.cell? ⟨gb541,2,none⟩ = some (.int .i64 a0_2):=(blk_cell BK541.out 2).trans rfl;have hfz59_0:=blk_frozen BK541.out 0;have hfz59_1:=blk_frozen BK541.out 1;have hfz59_2:=blk_frozen BK541.out 2) | ((with_reducible refine gate_callee (f:=60) rfl ?_);refine goesL_ (some 13) rfl rfl Tryz.func60 (by kernel_rfl) rfl #[.int .i64 a0_0,.bool a0_1] rfl q71_ ?_;(with_reducible refine (spec_l3Template.calls k a0_0 a0_1 t543 _ A4.out).mono ?_);rintro e w60 ⟨rfl,hb⟩;refine ⟨_,rfl,?_⟩;have n0_:=Aside0.mk (blk_below (g:=gb541) (o:=.cells #[.int .i64 a0_0,.bool a0_1,.int .i64 a0_2] 30 (0,0)) q84_ hb);have n1_:=Aside0.mk (below_step q63_ hb);clear BK541;clear HB;have BK541:=n0_;have HB:=n1_;clear n0_ n1_;(try clear hb)) | ((with_reducible refine gate_callee (f:=59) rfl ?_);refine goesL_ (some 16) rfl rfl Tryz.func59 (by kernel_rfl) rfl #[.string t543] rfl q71_ ?_;(with_reducible refine (spec_l3Hole.calls k t543 t544 t545 _ A5.out).mono ?_);rintro e w61 ⟨rfl,hb⟩;refine ⟨_,rfl,?_⟩;have n0_:=Aside0.mk (blk_below (g:=gb541) (o:=.cells #[.int .i64 a0_0,.bool a0_1,.int .i64 a0_2] 30 (0,0)) q84_ hb);have n1_:=Aside0.mk (below_step q63_ hb);clear BK541;clear HB;have BK541:=n0_;have HB:=n1_;clear n0_ n1_;(try clear hb)))
  go_ret
  exact ⟨q74_,q63_⟩
 replace c3:=Bool.eq_false_iff.mpr c3
 subst c3
 rewrite [if_neg (show ¬ (false = true) by decide)] at H
 obtain rfl:=Option.some.inj H
 go_enter Tryz.func28,Tryz.ntmps28
 go_wp2_with (first | ((with_reducible refine gate_dst (N:=1) rfl ?_);refine box_event ?hg (N:=1) ?hd (cs:=#[.int .i64 a0_0,.bool a0_1,.int .i64 a0_2]) (t:=30) ?hr ?_;(case hd => rfl);(case hg => rfl);(case hr => exact q139_);intro gb541 hg w62 hbox hb;have n0_:=Aside0.mk (below_step q72_ hb);have n1_:=Aside0.mk (hbox);have n2_:=Aside0.mk ((q56_:w.heap.size ≤ gb541));have n3_:=Aside0.mk ((q56_:w.heap.size ≤ gb541));clear HB;have HB:=n0_;have BK541:=n1_;have GW541:=n2_;have GE541:=n3_;clear n0_ n1_ n2_ n3_;clear hb hbox hg;have hcz63_0:w62.cell? ⟨gb541,0,none⟩ = some (.int .i64 a0_0):=(blk_cell BK541.out 0).trans rfl;have hcz63_1:w62.cell? ⟨gb541,1,none⟩ = some (.bool a0_1):=(blk_cell BK541.out 1).trans rfl;have hcz63_2:w62.cell? ⟨gb541,2,none⟩ = some (.int .i64 a0_2):=(blk_cell BK541.out 2).trans rfl;have hfz63_0:=blk_frozen BK541.out 0;have hfz63_1:=blk_frozen BK541.out 1;have hfz63_2:=blk_frozen BK541.out 2) | ((with_reducible refine gate_callee (f:=21) rfl ?_);refine goesL_ (some 7) rfl rfl Tryz.func21 (by kernel_rfl) rfl #[.agg #[.int .i64 a0_0,.bool a0_1,.int .i64 a0_2]] rfl q71_ ?_;(with_reducible refine (spec_InsOk.calls k a0_0 a0_1 a0_2 false _ A2.out).mono ?_);rintro e w64 ⟨rfl,hb⟩;refine ⟨_,rfl,?_⟩;have n0_:=Aside0.mk (blk_below (g:=gb541) (o:=.cells #[.int .i64 a0_0,.bool a0_1,.int .i64 a0_2] 30 (0,0)) q84_ hb);have n1_:=Aside0.mk (below_step q63_ hb);clear BK541;clear HB;have BK541:=n0_;have HB:=n1_;clear n0_ n1_;(try clear hb)))
 go_ret
 exact ⟨q74_,q63_⟩
end Go.Proofs.YtodlnnoekccmmaaGreatDoor.QFnInsTexts
