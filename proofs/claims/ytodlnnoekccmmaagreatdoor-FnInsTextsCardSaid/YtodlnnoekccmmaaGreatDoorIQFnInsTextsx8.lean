/- The machine's side of a law,written by a program of this session for this claim. -/
import Derived.Test.YtodlnnoekccmmaaGreatDoorIQq
import Derived.Test.YtodlnnoekccmmaaGreatDoorIQFnInsTextsx0
import Derived.Test.YtodlnnoekccmmaaGreatDoorIQFnInsTextsx7
namespace Go.Proofs.YtodlnnoekccmmaaGreatDoor.QFnInsTexts
open Go.Proofs.YtodlnnoekccmmaaGreatDoor.Qq
open Go.RowKit Go.Proofs.YtodlnnoekccmmaaGreatDoor.LibX Go.Proofs.YtodlnnoekccmmaaGreatDoor.LibE Go.Proofs.YtodlnnoekccmmaaGreatDoor.LibCB Go.Proofs.YtodlnnoekccmmaaGreatDoorW.PrintWords Go.Proofs.YtodlnnoekccmmaaGreatDoorW.PrintLast Go.Proofs.YtodlnnoekccmmaaGreatDoorW.PrintMore
attribute [local go_sem] max2_int min2_int max_two min_two max_three min_three max_four min_four   -- for this text's walks alone
set_option maxHeartbeats 8000000
set_option maxRecDepth 100000
set_option linter.unusedVariables false
set_option linter.unusedSimpArgs false
def spec_l3Conds.f :Option (List ByteArray):=some (([(⟨#[110,122]⟩:ByteArray),(⟨#[122]⟩:ByteArray),(⟨#[110,99]⟩:ByteArray),(⟨#[99]⟩:ByteArray)]:List ByteArray))
theorem spec_l3Conds.calls  (r:List ByteArray) (w:World) (h:spec_l3Conds.f  = some r) :
  Calls Tryz.prog 132 #[] w fun e w' => ∃ v0_:Value,e = .returned (v0_) ∧ Kd.R Kd.string 9 w' w.heap.size (fun _ => True) v0_ r ∧ Below w.heap.size w w':=by
 have HB:=Aside0.mk (Below.refl w.heap.size w)
 have H:=h;unfold spec_l3Conds.f at H
 clear h
 obtain ⟨y282,hy282⟩:∃ y_:List ByteArray,y_ = (([(⟨#[110,122]⟩:ByteArray),(⟨#[122]⟩:ByteArray),(⟨#[110,99]⟩:ByteArray),(⟨#[99]⟩:ByteArray)]:List ByteArray)):=⟨_,rfl⟩
 replace H:(some y282) = some r:=by first | (rw [hy282];exact H) | exact H
 have Ny282:=Aside0.mk hy282
 clear hy282
 obtain rfl:=Option.some.inj H
 go_enter Tryz.func132,Tryz.ntmps132
 go_wp2_with (first | ((with_reducible refine gate_dst (N:=1) rfl ?_);refine Kd.R_lit Kd.string _ 9 ?hg (N:=1) ?hd (xs:=([(⟨#[110,122]⟩:ByteArray),(⟨#[122]⟩:ByteArray),(⟨#[110,99]⟩:ByteArray),(⟨#[99]⟩:ByteArray)]:List ByteArray)) (inner:=[.string (⟨#[110,122]⟩:ByteArray),.string (⟨#[122]⟩:ByteArray),.string (⟨#[110,99]⟩:ByteArray),.string (⟨#[99]⟩:ByteArray)]) (ok:=fun _ => True) (okp:=fun _ => True) ?hr ?hp (fun _ hk => hk) trivial (Below.refl _ _) (Nat.le_refl _) (by simp) ?_;(case hd => rfl);(case hg => rfl);(case hr => exact q139_);(case hp => exact (Reps.one (show Kd.M Kd.string _ _ _ (⟨#[110,122]⟩:ByteArray) [.string (⟨#[110,122]⟩:ByteArray)] from rfl) (Reps.one (show Kd.M Kd.string _ _ _ (⟨#[122]⟩:ByteArray) [.string (⟨#[122]⟩:ByteArray)] from rfl) (Reps.one (show Kd.M Kd.string _ _ _ (⟨#[110,99]⟩:ByteArray) [.string (⟨#[110,99]⟩:ByteArray)] from rfl) (Reps.one (show Kd.M Kd.string _ _ _ (⟨#[99]⟩:ByteArray) [.string (⟨#[99]⟩:ByteArray)] from rfl) (Reps.none _ _))))));intro v283 w1 ho2 hb hg_ hnew_;clear hg_ hnew_;(first | rw [← Ny282.out] at ho2 | (simp only [Int.reduceToNat] at ho2;rw [← Ny282.out] at ho2));have n0_:=Aside0.mk (Kd.R_lower ho2 (below_size q72_));have n1_:=Aside0.mk (below_step q72_ hb);clear HB;have HO284:=n0_;have HB:=n1_;clear n0_ n1_;clear hb ho2))
 go_ret
 exact ⟨_,q74_,by (with_reducible repeat (first | apply Kd.R_alloc | apply Kd.R_drewN | apply Kd.R_drew));exact HO284.out,q72_⟩
def spec_l3Pairs.f :Option (List ByteArray):=some (([(⟨#[98,99]⟩:ByteArray),(⟨#[100,101]⟩:ByteArray),(⟨#[104,108]⟩:ByteArray),(⟨#[115,112]⟩:ByteArray)]:List ByteArray))
theorem spec_l3Pairs.calls  (r:List ByteArray) (w:World) (h:spec_l3Pairs.f  = some r) :
  Calls Tryz.prog 133 #[] w fun e w' => ∃ v0_:Value,e = .returned (v0_) ∧ Kd.R Kd.string 9 w' w.heap.size (fun _ => True) v0_ r ∧ Below w.heap.size w w':=by
 have HB:=Aside0.mk (Below.refl w.heap.size w)
 have H:=h;unfold spec_l3Pairs.f at H
 clear h
 obtain ⟨y285,hy285⟩:∃ y_:List ByteArray,y_ = (([(⟨#[98,99]⟩:ByteArray),(⟨#[100,101]⟩:ByteArray),(⟨#[104,108]⟩:ByteArray),(⟨#[115,112]⟩:ByteArray)]:List ByteArray)):=⟨_,rfl⟩
 replace H:(some y285) = some r:=by first | (rw [hy285];exact H) | exact H
 have Ny285:=Aside0.mk hy285
 clear hy285
 obtain rfl:=Option.some.inj H
 go_enter Tryz.func133,Tryz.ntmps133
 go_wp2_with (first | ((with_reducible refine gate_dst (N:=1) rfl ?_);refine Kd.R_lit Kd.string _ 9 ?hg (N:=1) ?hd (xs:=([(⟨#[98,99]⟩:ByteArray),(⟨#[100,101]⟩:ByteArray),(⟨#[104,108]⟩:ByteArray),(⟨#[115,112]⟩:ByteArray)]:List ByteArray)) (inner:=[.string (⟨#[98,99]⟩:ByteArray),.string (⟨#[100,101]⟩:ByteArray),.string (⟨#[104,108]⟩:ByteArray),.string (⟨#[115,112]⟩:ByteArray)]) (ok:=fun _ => True) (okp:=fun _ => True) ?hr ?hp (fun _ hk => hk) trivial (Below.refl _ _) (Nat.le_refl _) (by simp) ?_;(case hd => rfl);(case hg => rfl);(case hr => exact q139_);(case hp => exact (Reps.one (show Kd.M Kd.string _ _ _ (⟨#[98,99]⟩:ByteArray) [.string (⟨#[98,99]⟩:ByteArray)] from rfl) (Reps.one (show Kd.M Kd.string _ _ _ (⟨#[100,101]⟩:ByteArray) [.string (⟨#[100,101]⟩:ByteArray)] from rfl) (Reps.one (show Kd.M Kd.string _ _ _ (⟨#[104,108]⟩:ByteArray) [.string (⟨#[104,108]⟩:ByteArray)] from rfl) (Reps.one (show Kd.M Kd.string _ _ _ (⟨#[115,112]⟩:ByteArray) [.string (⟨#[115,112]⟩:ByteArray)] from rfl) (Reps.none _ _))))));intro v286 w1 ho2 hb hg_ hnew_;clear hg_ hnew_;(first | rw [← Ny285.out] at ho2 | (simp only [Int.reduceToNat] at ho2;rw [← Ny285.out] at ho2));have n0_:=Aside0.mk (Kd.R_lower ho2 (below_size q72_));have n1_:=Aside0.mk (below_step q72_ hb);clear HB;have HO287:=n0_;have HB:=n1_;clear n0_ n1_;clear hb ho2))
 go_ret
 exact ⟨_,q74_,by (with_reducible repeat (first | apply Kd.R_alloc | apply Kd.R_drewN | apply Kd.R_drew));exact HO287.out,q72_⟩
def spec_l3Low.f (a0:Int) (a1:Int):Option (ByteArray):=if a1 = 0 then (if a0 < 4 then ((some (([(⟨#[110,111,112]⟩:ByteArray),(⟨#[108,100,32,91,110,49,54,93,44,115,112]⟩:ByteArray),(⟨#[115,116,111,112,32,110,56]⟩:ByteArray),(⟨#[106,114,32,101,56]⟩:ByteArray)]:List ByteArray):List ByteArray)).bind fun y288 => (if 0 ≤ a0 then (if a0 < (y288.length:Int) then (some (rdOf ByteArray.empty y288 a0)) else (none)) else (none))) else ((spec_l3Conds.f).bind fun t292 => (if 0 ≤ (wrap64 (a0 - 4)) then (if (wrap64 (a0 - 4)) < (t292.length:Int) then (if 3 + (rdOf ByteArray.empty t292 (wrap64 (a0 - 4))).size ≤ 9223372036854775807 then (if ((⟨#[106,114,32]⟩:ByteArray) ++ (rdOf ByteArray.empty t292 (wrap64 (a0 - 4)))).size + 3 ≤ 9223372036854775807 then (some (((⟨#[106,114,32]⟩:ByteArray) ++ (rdOf ByteArray.empty t292 (wrap64 (a0 - 4)))) ++ (⟨#[44,101,56]⟩:ByteArray))) else (none)) else (none)) else (none)) else (none)))) else (if a1 = 1 then (if (Int.tmod a0 2) = 0 then ((spec_l3Pairs.f).bind fun t296 => (if 0 ≤ (wrap64 (Int.tdiv a0 2)) then (if (wrap64 (Int.tdiv a0 2)) < (t296.length:Int) then (if 3 + (rdOf ByteArray.empty t296 (wrap64 (Int.tdiv a0 2))).size ≤ 9223372036854775807 then (if ((⟨#[108,100,32]⟩:ByteArray) ++ (rdOf ByteArray.empty t296 (wrap64 (Int.tdiv a0 2)))).size + 4 ≤ 9223372036854775807 then (some (((⟨#[108,100,32]⟩:ByteArray) ++ (rdOf ByteArray.empty t296 (wrap64 (Int.tdiv a0 2)))) ++ (⟨#[44,110,49,54]⟩:ByteArray))) else (none)) else (none)) else (none)) else (none))) else ((spec_l3Pairs.f).bind fun t300 => (if 0 ≤ (wrap64 (Int.tdiv a0 2)) then (if (wrap64 (Int.tdiv a0 2)) < (t300.length:Int) then (if 7 + (rdOf ByteArray.empty t300 (wrap64 (Int.tdiv a0 2))).size ≤ 9223372036854775807 then (some ((⟨#[97,100,100,32,104,108,44]⟩:ByteArray) ++ (rdOf ByteArray.empty t300 (wrap64 (Int.tdiv a0 2))))) else (none)) else (none)) else (none)))) else (if a1 = 2 then ((some (([(⟨#[91,98,99,93]⟩:ByteArray),(⟨#[91,100,101,93]⟩:ByteArray),(⟨#[91,104,108,43,93]⟩:ByteArray),(⟨#[91,104,108,45,93]⟩:ByteArray)]:List ByteArray):List ByteArray)).bind fun y304 => (if 0 ≤ (wrap64 (Int.tdiv a0 2)) then (if (wrap64 (Int.tdiv a0 2)) < (y304.length:Int) then (if (Int.tmod a0 2) = 0 then (if 3 + (rdOf ByteArray.empty y304 (wrap64 (Int.tdiv a0 2))).size ≤ 9223372036854775807 then (if ((⟨#[108,100,32]⟩:ByteArray) ++ (rdOf ByteArray.empty y304 (wrap64 (Int.tdiv a0 2)))).size + 2 ≤ 9223372036854775807 then (some (((⟨#[108,100,32]⟩:ByteArray) ++ (rdOf ByteArray.empty y304 (wrap64 (Int.tdiv a0 2)))) ++ (⟨#[44,97]⟩:ByteArray))) else (none)) else (none)) else (if 5 + (rdOf ByteArray.empty y304 (wrap64 (Int.tdiv a0 2))).size ≤ 9223372036854775807 then (some ((⟨#[108,100,32,97,44]⟩:ByteArray) ++ (rdOf ByteArray.empty y304 (wrap64 (Int.tdiv a0 2))))) else (none))) else (none)) else (none))) else (if a1 = 3 then ((some (([(⟨#[105,110,99,32]⟩:ByteArray),(⟨#[100,101,99,32]⟩:ByteArray)]:List ByteArray):List ByteArray)).bind fun y308 => (if 0 ≤ (Int.tmod a0 2) then (if (Int.tmod a0 2) < (y308.length:Int) then ((spec_l3Pairs.f).bind fun t312 => (if 0 ≤ (wrap64 (Int.tdiv a0 2)) then (if (wrap64 (Int.tdiv a0 2)) < (t312.length:Int) then (if (rdOf ByteArray.empty y308 (Int.tmod a0 2)).size + (rdOf ByteArray.empty t312 (wrap64 (Int.tdiv a0 2))).size ≤ 9223372036854775807 then (some ((rdOf ByteArray.empty y308 (Int.tmod a0 2)) ++ (rdOf ByteArray.empty t312 (wrap64 (Int.tdiv a0 2))))) else (none)) else (none)) else (none))) else (none)) else (none))) else (if a1 = 4 then ((spec_l3Regs.f).bind fun t316 => (if 0 ≤ a0 then (if a0 < (t316.length:Int) then (if 4 + (rdOf ByteArray.empty t316 a0).size ≤ 9223372036854775807 then (some ((⟨#[105,110,99,32]⟩:ByteArray) ++ (rdOf ByteArray.empty t316 a0))) else (none)) else (none)) else (none))) else (if a1 = 5 then ((spec_l3Regs.f).bind fun t320 => (if 0 ≤ a0 then (if a0 < (t320.length:Int) then (if 4 + (rdOf ByteArray.empty t320 a0).size ≤ 9223372036854775807 then (some ((⟨#[100,101,99,32]⟩:ByteArray) ++ (rdOf ByteArray.empty t320 a0))) else (none)) else (none)) else (none))) else (if a1 = 6 then ((spec_l3Regs.f).bind fun t324 => (if 0 ≤ a0 then (if a0 < (t324.length:Int) then (if 3 + (rdOf ByteArray.empty t324 a0).size ≤ 9223372036854775807 then (if ((⟨#[108,100,32]⟩:ByteArray) ++ (rdOf ByteArray.empty t324 a0)).size + 3 ≤ 9223372036854775807 then (some (((⟨#[108,100,32]⟩:ByteArray) ++ (rdOf ByteArray.empty t324 a0)) ++ (⟨#[44,110,56]⟩:ByteArray))) else (none)) else (none)) else (none)) else (none))) else ((some (([(⟨#[114,108,99,97]⟩:ByteArray),(⟨#[114,114,99,97]⟩:ByteArray),(⟨#[114,108,97]⟩:ByteArray),(⟨#[114,114,97]⟩:ByteArray),(⟨#[100,97,97]⟩:ByteArray),(⟨#[99,112,108]⟩:ByteArray),(⟨#[115,99,102]⟩:ByteArray),(⟨#[99,99,102]⟩:ByteArray)]:List ByteArray):List ByteArray)).bind fun y328 => (if 0 ≤ a0 then (if a0 < (y328.length:Int) then (some (rdOf ByteArray.empty y328 a0)) else (none)) else (none)))))))))
def spec_l3Low.T18:Bool × List (List Nat × List Nat):=(true,[([],[]),([],[]),([0,1],[0,1]),([2],[2]),([],[]),([],[]),([4,5],[4,5]),([6],[6]),([3,7],[3,7]),([8,4,0,1,2,3,4,5,6,7,8],[8])])
def spec_l3Low.B18:List Nat:=[0,0,3,7,0,0,48,112,255,511]
theorem spec_l3Low.tab18:rtab .any (opsOf Tryz.f101 18) = spec_l3Low.T18:=by kernel_rfl
theorem spec_l3Low.bits18:waitsOk spec_l3Low.T18.2 spec_l3Low.B18 = true:=by kernel_rfl
theorem spec_l3Low.calls (a0:Int) (a1:Int) (r:ByteArray) (w:World) (h:spec_l3Low.f a0 a1 = some r) :
  Calls Tryz.prog 101 #[.int .i64 a0,.int .i64 a1] w fun e w' => e = .returned (.string r) ∧ Below w.heap.size w w':=by
 have HB:=Aside0.mk (Below.refl w.heap.size w)
 have H:=h;unfold spec_l3Low.f at H
 clear h
 by_cases c3:a1 = 0
 ·rw [if_pos c3] at H
  have c3b0:(a1 == 0) = true:=beq_iff_eq.mpr c3
  have c3b1:(a1 != 0) = false:=bne_eq_false_iff_eq.mpr c3
  clear c3
  by_cases c4:a0 < 4
  ·rw [if_pos c4] at H
   have c4b0:=decide_eq_true c4
   clear c4
   obtain ⟨y288,hy288⟩:∃ y_:List ByteArray,y_ = (([(⟨#[110,111,112]⟩:ByteArray),(⟨#[108,100,32,91,110,49,54,93,44,115,112]⟩:ByteArray),(⟨#[115,116,111,112,32,110,56]⟩:ByteArray),(⟨#[106,114,32,101,56]⟩:ByteArray)]:List ByteArray)):=⟨_,rfl⟩
   replace H:(if 0 ≤ a0 then (if a0 < (y288.length:Int) then (some (rdOf ByteArray.empty y288 a0)) else (none)) else (none)) = some r:=by first | (rw [hy288];exact H) | exact H
   have Ny288:=Aside0.mk hy288
   clear hy288
   by_cases c5:0 ≤ a0
   rotate_left
   ·rw [if_neg c5] at H
    exact absurd H (by simp)
   rw [if_pos c5] at H
   have c5b0:=decide_eq_true c5
   clear c5
   by_cases c6:a0 < (y288.length:Int)
   rotate_left
   ·rw [if_neg c6] at H
    exact absurd H (by simp)
   rw [if_pos c6] at H
   have c6b0:=decide_eq_true c6
   clear c6
   obtain rfl:=Option.some.inj H
   go_enter Tryz.func101,Tryz.ntmps101
   go_wp2_with (first | ((with_reducible refine gate_dst (N:=17) rfl ?_);refine Kd.R_lit Kd.string _ 9 ?hg (N:=17) ?hd (xs:=([(⟨#[110,111,112]⟩:ByteArray),(⟨#[108,100,32,91,110,49,54,93,44,115,112]⟩:ByteArray),(⟨#[115,116,111,112,32,110,56]⟩:ByteArray),(⟨#[106,114,32,101,56]⟩:ByteArray)]:List ByteArray)) (inner:=[.string (⟨#[110,111,112]⟩:ByteArray),.string (⟨#[108,100,32,91,110,49,54,93,44,115,112]⟩:ByteArray),.string (⟨#[115,116,111,112,32,110,56]⟩:ByteArray),.string (⟨#[106,114,32,101,56]⟩:ByteArray)]) (ok:=fun _ => True) (okp:=fun _ => True) ?hr ?hp (fun _ hk => hk) trivial (Below.refl _ _) (Nat.le_refl _) (by simp) ?_;(case hd => rfl);(case hg => rfl);(case hr => exact q139_);(case hp => exact q124_);intro v289 w7 ho8 hb hg_ hnew_;clear hg_ hnew_;(first | rw [← Ny288.out] at ho8 | (simp only [Int.reduceToNat] at ho8;rw [← Ny288.out] at ho8));have n0_:=Aside0.mk (Kd.R_lower ho8 (below_size q72_));have n1_:=Aside0.mk (below_step q72_ hb);clear HB;have HO290:=n0_;have HB:=n1_;clear n0_ n1_;clear hb ho8;obtain ⟨Ao9,co9,eo9⟩:=Kd.R_slice HO290.out;subst eo9;have p291:0 ≤ (a0:Int):=of_decide_eq_true q109_;have q291:a0 < (y288.length:Int):=of_decide_eq_true q109_;obtain ⟨ad291,e291,hx291_0⟩:=Kd.at_string (Kd.R_reads' HO290.out).2.2 a0 p291 q291;cases e291;replace p291:=eq_true p291;replace q291:=eq_true q291))
   go_ret
   exact ⟨q74_,q72_⟩
  rw [if_neg c4] at H
  have c4b0:=decide_eq_false c4
  clear c4
  replace H:=Option.bind_eq_some_iff.mp H
  obtain ⟨t292,A100,H⟩:=H
  have A10:=Aside0.mk A100
  clear A100
  obtain ⟨ji11,hji11⟩:∃ j_:Int,(wrap64 (a0 - 4)) = j_:=⟨_,rfl⟩
  (first | rewrite [hji11] at H | simp only [hji11] at H)
  (try rw [hji11] at A10)
  have hji11w:(IntKind.i64.wrap (a0 - 4)) = ji11:=(i64_w _).trans hji11
  by_cases c12:0 ≤ (ji11)
  rotate_left
  ·rw [if_neg c12] at H
   exact absurd H (by simp)
  rw [if_pos c12] at H
  have c12b0:=decide_eq_true c12
  clear c12
  by_cases c13:(ji11) < (t292.length:Int)
  rotate_left
  ·rw [if_neg c13] at H
   exact absurd H (by simp)
  rw [if_pos c13] at H
  have c13b0:=decide_eq_true c13
  clear c13
  by_cases c14:3 + (rdOf ByteArray.empty t292 (ji11)).size ≤ 9223372036854775807
  rotate_left
  ·rw [if_neg c14] at H
   exact absurd H (by simp)
  rw [if_pos c14] at H
  have c14b0:=eq_true c14
  have c14b1:=decide_eq_true c14
  try have c14b2:(9223372036854775807 < 3 + (rdOf ByteArray.empty t292 (ji11)).size) = False:=eq_false (Nat.not_lt.2 c14)
  by_cases c15:((⟨#[106,114,32]⟩:ByteArray) ++ (rdOf ByteArray.empty t292 (ji11))).size + 3 ≤ 9223372036854775807
  rotate_left
  ·rw [if_neg c15] at H
   exact absurd H (by simp)
  rw [if_pos c15] at H
  have c15b0:=eq_true c15
  (try (have c15b0e:=c15b0;simp only [ByteArray.size_append,ByteArray.size_extract,Nat.min_self,Nat.sub_zero,show (⟨#[106,114,32]⟩:ByteArray).size = 3 from rfl] at c15b0e))
  have c15b1:=decide_eq_true c15
  (try (have c15b1e:=c15b1;simp only [ByteArray.size_append,ByteArray.size_extract,Nat.min_self,Nat.sub_zero,show (⟨#[106,114,32]⟩:ByteArray).size = 3 from rfl] at c15b1e))
  try have c15b2:(9223372036854775807 < ((⟨#[106,114,32]⟩:ByteArray) ++ (rdOf ByteArray.empty t292 (ji11))).size + 3) = False:=eq_false (Nat.not_lt.2 c15)
  (try (have c15b2e:=c15b2;simp only [ByteArray.size_append,ByteArray.size_extract,Nat.min_self,Nat.sub_zero,show (⟨#[106,114,32]⟩:ByteArray).size = 3 from rfl] at c15b2e))
  obtain rfl:=Option.some.inj H
  go_enter Tryz.func101,Tryz.ntmps101
  go_wp2_with (first | ((with_reducible refine gate_callee (f:=132) rfl ?_);refine goesL_ (some 21) rfl rfl Tryz.func132 (by kernel_rfl) rfl #[] rfl q71_ ?_;(with_reducible refine (spec_l3Conds.calls  t292 _ A10.out).mono ?_);rintro e w16 ⟨v293,rfl,ho0,hb⟩;refine ⟨_,rfl,?_⟩;have n0_:=Aside0.mk (Kd.R_lower ho0 (below_size q72_));have n1_:=Aside0.mk (below_step q72_ hb);clear HB;have HO294:=n0_;have HB:=n1_;clear n0_ n1_;(try clear hb);(try clear ho0);obtain ⟨Ao17,co17,eo17⟩:=Kd.R_slice HO294.out;subst eo17;have p295:0 ≤ ((ji11):Int):=of_decide_eq_true q109_;have q295:(ji11) < (t292.length:Int):=of_decide_eq_true q109_;obtain ⟨ad295,e295,hx295_0⟩:=Kd.at_string (Kd.R_reads' HO294.out).2.2 (ji11) p295 q295;cases e295;replace p295:=eq_true p295;replace q295:=eq_true q295))
  go_ret
  exact ⟨q41_,q72_⟩
 rw [if_neg c3] at H
 have c3b0:(a1 == 0) = false:=beq_eq_false_iff_ne.mpr c3
 have c3b1:(a1 != 0) = true:=bne_iff_ne.mpr c3
 by_cases c18:a1 = 1
 ·rw [if_pos c18] at H
  have c18b0:(a1 == 1) = true:=beq_iff_eq.mpr c18
  have c18b1:(a1 != 1) = false:=bne_eq_false_iff_eq.mpr c18
  clear c18
  by_cases c19:(Int.tmod a0 2) = 0
  ·rw [if_pos c19] at H
   have c19b0:((Int.tmod a0 2) == 0) = true:=beq_iff_eq.mpr c19
   have c19b1:((Int.tmod a0 2) != 0) = false:=bne_eq_false_iff_eq.mpr c19
   clear c19
   replace H:=Option.bind_eq_some_iff.mp H
   obtain ⟨t296,A200,H⟩:=H
   have A20:=Aside0.mk A200
   clear A200
   obtain ⟨ji21,hji21⟩:∃ j_:Int,(wrap64 (Int.tdiv a0 2)) = j_:=⟨_,rfl⟩
   (first | rewrite [hji21] at H | simp only [hji21] at H)
   (try rw [hji21] at A20)
   have hji21w:(IntKind.i64.wrap (Int.tdiv a0 2)) = ji21:=(i64_w _).trans hji21
   by_cases c22:0 ≤ (ji21)
   rotate_left
   ·rw [if_neg c22] at H
    exact absurd H (by simp)
   rw [if_pos c22] at H
   have c22b0:=decide_eq_true c22
   clear c22
   by_cases c23:(ji21) < (t296.length:Int)
   rotate_left
   ·rw [if_neg c23] at H
    exact absurd H (by simp)
   rw [if_pos c23] at H
   have c23b0:=decide_eq_true c23
   clear c23
   by_cases c24:3 + (rdOf ByteArray.empty t296 (ji21)).size ≤ 9223372036854775807
   rotate_left
   ·rw [if_neg c24] at H
    exact absurd H (by simp)
   rw [if_pos c24] at H
   have c24b0:=eq_true c24
   have c24b1:=decide_eq_true c24
   try have c24b2:(9223372036854775807 < 3 + (rdOf ByteArray.empty t296 (ji21)).size) = False:=eq_false (Nat.not_lt.2 c24)
   by_cases c25:((⟨#[108,100,32]⟩:ByteArray) ++ (rdOf ByteArray.empty t296 (ji21))).size + 4 ≤ 9223372036854775807
   rotate_left
   ·rw [if_neg c25] at H
    exact absurd H (by simp)
   rw [if_pos c25] at H
   have c25b0:=eq_true c25
   (try (have c25b0e:=c25b0;simp only [ByteArray.size_append,ByteArray.size_extract,Nat.min_self,Nat.sub_zero,show (⟨#[108,100,32]⟩:ByteArray).size = 3 from rfl] at c25b0e))
   have c25b1:=decide_eq_true c25
   (try (have c25b1e:=c25b1;simp only [ByteArray.size_append,ByteArray.size_extract,Nat.min_self,Nat.sub_zero,show (⟨#[108,100,32]⟩:ByteArray).size = 3 from rfl] at c25b1e))
   try have c25b2:(9223372036854775807 < ((⟨#[108,100,32]⟩:ByteArray) ++ (rdOf ByteArray.empty t296 (ji21))).size + 4) = False:=eq_false (Nat.not_lt.2 c25)
   (try (have c25b2e:=c25b2;simp only [ByteArray.size_append,ByteArray.size_extract,Nat.min_self,Nat.sub_zero,show (⟨#[108,100,32]⟩:ByteArray).size = 3 from rfl] at c25b2e))
   obtain rfl:=Option.some.inj H
   go_enter Tryz.func101,Tryz.ntmps101
   go_wp2_with (first | ((with_reducible refine gate_callee (f:=133) rfl ?_);refine goesL_ (some 32) rfl rfl Tryz.func133 (by kernel_rfl) rfl #[] rfl q71_ ?_;(with_reducible refine (spec_l3Pairs.calls  t296 _ A20.out).mono ?_);rintro e w26 ⟨v297,rfl,ho0,hb⟩;refine ⟨_,rfl,?_⟩;have n0_:=Aside0.mk (Kd.R_lower ho0 (below_size q72_));have n1_:=Aside0.mk (below_step q72_ hb);clear HB;have HO298:=n0_;have HB:=n1_;clear n0_ n1_;(try clear hb);(try clear ho0);obtain ⟨Ao27,co27,eo27⟩:=Kd.R_slice HO298.out;subst eo27;have p299:0 ≤ ((ji21):Int):=of_decide_eq_true q109_;have q299:(ji21) < (t296.length:Int):=of_decide_eq_true q109_;obtain ⟨ad299,e299,hx299_0⟩:=Kd.at_string (Kd.R_reads' HO298.out).2.2 (ji21) p299 q299;cases e299;replace p299:=eq_true p299;replace q299:=eq_true q299))
   go_ret
   exact ⟨q38_,q72_⟩
  rw [if_neg c19] at H
  have c19b0:((Int.tmod a0 2) == 0) = false:=beq_eq_false_iff_ne.mpr c19
  have c19b1:((Int.tmod a0 2) != 0) = true:=bne_iff_ne.mpr c19
  replace H:=Option.bind_eq_some_iff.mp H
  obtain ⟨t300,A280,H⟩:=H
  have A28:=Aside0.mk A280
  clear A280
  obtain ⟨ji29,hji29⟩:∃ j_:Int,(wrap64 (Int.tdiv a0 2)) = j_:=⟨_,rfl⟩
  (first | rewrite [hji29] at H | simp only [hji29] at H)
  (try rw [hji29] at A28)
  have hji29w:(IntKind.i64.wrap (Int.tdiv a0 2)) = ji29:=(i64_w _).trans hji29
  by_cases c30:0 ≤ (ji29)
  rotate_left
  ·rw [if_neg c30] at H
   exact absurd H (by simp)
  rw [if_pos c30] at H
  have c30b0:=decide_eq_true c30
  clear c30
  by_cases c31:(ji29) < (t300.length:Int)
  rotate_left
  ·rw [if_neg c31] at H
   exact absurd H (by simp)
  rw [if_pos c31] at H
  have c31b0:=decide_eq_true c31
  clear c31
  by_cases c32:7 + (rdOf ByteArray.empty t300 (ji29)).size ≤ 9223372036854775807
  rotate_left
  ·rw [if_neg c32] at H
   exact absurd H (by simp)
  rw [if_pos c32] at H
  have c32b0:=eq_true c32
  have c32b1:=decide_eq_true c32
  try have c32b2:(9223372036854775807 < 7 + (rdOf ByteArray.empty t300 (ji29)).size) = False:=eq_false (Nat.not_lt.2 c32)
  obtain rfl:=Option.some.inj H
  go_enter Tryz.func101,Tryz.ntmps101
  go_wp2_with (first | ((with_reducible refine gate_callee (f:=133) rfl ?_);refine goesL_ (some 38) rfl rfl Tryz.func133 (by kernel_rfl) rfl #[] rfl q71_ ?_;(with_reducible refine (spec_l3Pairs.calls  t300 _ A28.out).mono ?_);rintro e w33 ⟨v301,rfl,ho0,hb⟩;refine ⟨_,rfl,?_⟩;have n0_:=Aside0.mk (Kd.R_lower ho0 (below_size q72_));have n1_:=Aside0.mk (below_step q72_ hb);clear HB;have HO302:=n0_;have HB:=n1_;clear n0_ n1_;(try clear hb);(try clear ho0);obtain ⟨Ao34,co34,eo34⟩:=Kd.R_slice HO302.out;subst eo34;have p303:0 ≤ ((ji29):Int):=of_decide_eq_true q109_;have q303:(ji29) < (t300.length:Int):=of_decide_eq_true q109_;obtain ⟨ad303,e303,hx303_0⟩:=Kd.at_string (Kd.R_reads' HO302.out).2.2 (ji29) p303 q303;cases e303;replace p303:=eq_true p303;replace q303:=eq_true q303))
  go_ret
  exact ⟨q39_,q72_⟩
 rw [if_neg c18] at H
 have c18b0:(a1 == 1) = false:=beq_eq_false_iff_ne.mpr c18
 have c18b1:(a1 != 1) = true:=bne_iff_ne.mpr c18
 by_cases c35:a1 = 2
 ·rw [if_pos c35] at H
  have c35b0:(a1 == 2) = true:=beq_iff_eq.mpr c35
  have c35b1:(a1 != 2) = false:=bne_eq_false_iff_eq.mpr c35
  clear c35
  obtain ⟨y304,hy304⟩:∃ y_:List ByteArray,y_ = (([(⟨#[91,98,99,93]⟩:ByteArray),(⟨#[91,100,101,93]⟩:ByteArray),(⟨#[91,104,108,43,93]⟩:ByteArray),(⟨#[91,104,108,45,93]⟩:ByteArray)]:List ByteArray)):=⟨_,rfl⟩
  replace H:(if 0 ≤ (wrap64 (Int.tdiv a0 2)) then (if (wrap64 (Int.tdiv a0 2)) < (y304.length:Int) then (if (Int.tmod a0 2) = 0 then (if 3 + (rdOf ByteArray.empty y304 (wrap64 (Int.tdiv a0 2))).size ≤ 9223372036854775807 then (if ((⟨#[108,100,32]⟩:ByteArray) ++ (rdOf ByteArray.empty y304 (wrap64 (Int.tdiv a0 2)))).size + 2 ≤ 9223372036854775807 then (some (((⟨#[108,100,32]⟩:ByteArray) ++ (rdOf ByteArray.empty y304 (wrap64 (Int.tdiv a0 2)))) ++ (⟨#[44,97]⟩:ByteArray))) else (none)) else (none)) else (if 5 + (rdOf ByteArray.empty y304 (wrap64 (Int.tdiv a0 2))).size ≤ 9223372036854775807 then (some ((⟨#[108,100,32,97,44]⟩:ByteArray) ++ (rdOf ByteArray.empty y304 (wrap64 (Int.tdiv a0 2))))) else (none))) else (none)) else (none)) = some r:=by first | (rw [hy304];exact H) | exact H
  have Ny304:=Aside0.mk hy304
  clear hy304
  obtain ⟨ji36,hji36⟩:∃ j_:Int,(wrap64 (Int.tdiv a0 2)) = j_:=⟨_,rfl⟩
  (first | rewrite [hji36] at H | simp only [hji36] at H)
  have hji36w:(IntKind.i64.wrap (Int.tdiv a0 2)) = ji36:=(i64_w _).trans hji36
  by_cases c37:0 ≤ (ji36)
  rotate_left
  ·rw [if_neg c37] at H
   exact absurd H (by simp)
  rw [if_pos c37] at H
  have c37b0:=decide_eq_true c37
  clear c37
  by_cases c38:(ji36) < (y304.length:Int)
  rotate_left
  ·rw [if_neg c38] at H
   exact absurd H (by simp)
  rw [if_pos c38] at H
  have c38b0:=decide_eq_true c38
  clear c38
  by_cases c39:(Int.tmod a0 2) = 0
  ·rw [if_pos c39] at H
   have c39b0:((Int.tmod a0 2) == 0) = true:=beq_iff_eq.mpr c39
   have c39b1:((Int.tmod a0 2) != 0) = false:=bne_eq_false_iff_eq.mpr c39
   clear c39
   by_cases c40:3 + (rdOf ByteArray.empty y304 (ji36)).size ≤ 9223372036854775807
   rotate_left
   ·rw [if_neg c40] at H
    exact absurd H (by simp)
   rw [if_pos c40] at H
   have c40b0:=eq_true c40
   have c40b1:=decide_eq_true c40
   try have c40b2:(9223372036854775807 < 3 + (rdOf ByteArray.empty y304 (ji36)).size) = False:=eq_false (Nat.not_lt.2 c40)
   by_cases c41:((⟨#[108,100,32]⟩:ByteArray) ++ (rdOf ByteArray.empty y304 (ji36))).size + 2 ≤ 9223372036854775807
   rotate_left
   ·rw [if_neg c41] at H
    exact absurd H (by simp)
   rw [if_pos c41] at H
   have c41b0:=eq_true c41
   (try (have c41b0e:=c41b0;simp only [ByteArray.size_append,ByteArray.size_extract,Nat.min_self,Nat.sub_zero,show (⟨#[108,100,32]⟩:ByteArray).size = 3 from rfl] at c41b0e))
   have c41b1:=decide_eq_true c41
   (try (have c41b1e:=c41b1;simp only [ByteArray.size_append,ByteArray.size_extract,Nat.min_self,Nat.sub_zero,show (⟨#[108,100,32]⟩:ByteArray).size = 3 from rfl] at c41b1e))
   try have c41b2:(9223372036854775807 < ((⟨#[108,100,32]⟩:ByteArray) ++ (rdOf ByteArray.empty y304 (ji36))).size + 2) = False:=eq_false (Nat.not_lt.2 c41)
   (try (have c41b2e:=c41b2;simp only [ByteArray.size_append,ByteArray.size_extract,Nat.min_self,Nat.sub_zero,show (⟨#[108,100,32]⟩:ByteArray).size = 3 from rfl] at c41b2e))
   obtain rfl:=Option.some.inj H
   go_enter Tryz.func101,Tryz.ntmps101
   go_wp2_with (first | ((with_reducible refine gate_dst (N:=45) rfl ?_);refine Kd.R_lit Kd.string _ 9 ?hg (N:=45) ?hd (xs:=([(⟨#[91,98,99,93]⟩:ByteArray),(⟨#[91,100,101,93]⟩:ByteArray),(⟨#[91,104,108,43,93]⟩:ByteArray),(⟨#[91,104,108,45,93]⟩:ByteArray)]:List ByteArray)) (inner:=[.string (⟨#[91,98,99,93]⟩:ByteArray),.string (⟨#[91,100,101,93]⟩:ByteArray),.string (⟨#[91,104,108,43,93]⟩:ByteArray),.string (⟨#[91,104,108,45,93]⟩:ByteArray)]) (ok:=fun _ => True) (okp:=fun _ => True) ?hr ?hp (fun _ hk => hk) trivial (Below.refl _ _) (Nat.le_refl _) (by simp) ?_;(case hd => rfl);(case hg => rfl);(case hr => exact q139_);(case hp => exact q126_);intro v305 w42 ho43 hb hg_ hnew_;clear hg_ hnew_;(first | rw [← Ny304.out] at ho43 | (simp only [Int.reduceToNat] at ho43;rw [← Ny304.out] at ho43));have n0_:=Aside0.mk (Kd.R_lower ho43 (below_size q72_));have n1_:=Aside0.mk (below_step q72_ hb);clear HB;have HO306:=n0_;have HB:=n1_;clear n0_ n1_;clear hb ho43;obtain ⟨Ao44,co44,eo44⟩:=Kd.R_slice HO306.out;subst eo44;have p307:0 ≤ ((ji36):Int):=of_decide_eq_true q109_;have q307:(ji36) < (y304.length:Int):=of_decide_eq_true q109_;obtain ⟨ad307,e307,hx307_0⟩:=Kd.at_string (Kd.R_reads' HO306.out).2.2 (ji36) p307 q307;cases e307;replace p307:=eq_true p307;replace q307:=eq_true q307))
   go_ret
   exact ⟨q42_,q72_⟩
  rw [if_neg c39] at H
  have c39b0:((Int.tmod a0 2) == 0) = false:=beq_eq_false_iff_ne.mpr c39
  have c39b1:((Int.tmod a0 2) != 0) = true:=bne_iff_ne.mpr c39
  by_cases c45:5 + (rdOf ByteArray.empty y304 (ji36)).size ≤ 9223372036854775807
  rotate_left
  ·rw [if_neg c45] at H
   exact absurd H (by simp)
  rw [if_pos c45] at H
  have c45b0:=eq_true c45
  have c45b1:=decide_eq_true c45
  try have c45b2:(9223372036854775807 < 5 + (rdOf ByteArray.empty y304 (ji36)).size) = False:=eq_false (Nat.not_lt.2 c45)
  obtain rfl:=Option.some.inj H
  go_enter Tryz.func101,Tryz.ntmps101
  go_wp2_with (first | ((with_reducible refine gate_dst (N:=45) rfl ?_);refine Kd.R_lit Kd.string _ 9 ?hg (N:=45) ?hd (xs:=([(⟨#[91,98,99,93]⟩:ByteArray),(⟨#[91,100,101,93]⟩:ByteArray),(⟨#[91,104,108,43,93]⟩:ByteArray),(⟨#[91,104,108,45,93]⟩:ByteArray)]:List ByteArray)) (inner:=[.string (⟨#[91,98,99,93]⟩:ByteArray),.string (⟨#[91,100,101,93]⟩:ByteArray),.string (⟨#[91,104,108,43,93]⟩:ByteArray),.string (⟨#[91,104,108,45,93]⟩:ByteArray)]) (ok:=fun _ => True) (okp:=fun _ => True) ?hr ?hp (fun _ hk => hk) trivial (Below.refl _ _) (Nat.le_refl _) (by simp) ?_;(case hd => rfl);(case hg => rfl);(case hr => exact q139_);(case hp => exact q126_);intro v305 w46 ho47 hb hg_ hnew_;clear hg_ hnew_;(first | rw [← Ny304.out] at ho47 | (simp only [Int.reduceToNat] at ho47;rw [← Ny304.out] at ho47));have n0_:=Aside0.mk (Kd.R_lower ho47 (below_size q72_));have n1_:=Aside0.mk (below_step q72_ hb);clear HB;have HO306:=n0_;have HB:=n1_;clear n0_ n1_;clear hb ho47;obtain ⟨Ao48,co48,eo48⟩:=Kd.R_slice HO306.out;subst eo48;have p307:0 ≤ ((ji36):Int):=of_decide_eq_true q109_;have q307:(ji36) < (y304.length:Int):=of_decide_eq_true q109_;obtain ⟨ad307,e307,hx307_0⟩:=Kd.at_string (Kd.R_reads' HO306.out).2.2 (ji36) p307 q307;cases e307;replace p307:=eq_true p307;replace q307:=eq_true q307))
  go_ret
  exact ⟨q42_,q72_⟩
 rw [if_neg c35] at H
 have c35b0:(a1 == 2) = false:=beq_eq_false_iff_ne.mpr c35
 have c35b1:(a1 != 2) = true:=bne_iff_ne.mpr c35
 by_cases c49:a1 = 3
 ·rw [if_pos c49] at H
  have c49b0:(a1 == 3) = true:=beq_iff_eq.mpr c49
  have c49b1:(a1 != 3) = false:=bne_eq_false_iff_eq.mpr c49
  clear c49
  obtain ⟨y308,hy308⟩:∃ y_:List ByteArray,y_ = (([(⟨#[105,110,99,32]⟩:ByteArray),(⟨#[100,101,99,32]⟩:ByteArray)]:List ByteArray)):=⟨_,rfl⟩
  replace H:(if 0 ≤ (Int.tmod a0 2) then (if (Int.tmod a0 2) < (y308.length:Int) then ((spec_l3Pairs.f).bind fun t312 => (if 0 ≤ (wrap64 (Int.tdiv a0 2)) then (if (wrap64 (Int.tdiv a0 2)) < (t312.length:Int) then (if (rdOf ByteArray.empty y308 (Int.tmod a0 2)).size + (rdOf ByteArray.empty t312 (wrap64 (Int.tdiv a0 2))).size ≤ 9223372036854775807 then (some ((rdOf ByteArray.empty y308 (Int.tmod a0 2)) ++ (rdOf ByteArray.empty t312 (wrap64 (Int.tdiv a0 2))))) else (none)) else (none)) else (none))) else (none)) else (none)) = some r:=by first | (rw [hy308];exact H) | exact H
  have Ny308:=Aside0.mk hy308
  clear hy308
  obtain ⟨ji50,hji50⟩:∃ j_:Int,(Int.tmod a0 2) = j_:=⟨_,rfl⟩
  (first | rewrite [hji50] at H | simp only [hji50] at H)
  by_cases c51:0 ≤ (ji50)
  rotate_left
  ·rw [if_neg c51] at H
   exact absurd H (by simp)
  rw [if_pos c51] at H
  have c51b0:=decide_eq_true c51
  clear c51
  by_cases c52:(ji50) < (y308.length:Int)
  rotate_left
  ·rw [if_neg c52] at H
   exact absurd H (by simp)
  rw [if_pos c52] at H
  have c52b0:=decide_eq_true c52
  clear c52
  replace H:=Option.bind_eq_some_iff.mp H
  obtain ⟨t312,A530,H⟩:=H
  have A53:=Aside0.mk A530
  clear A530
  obtain ⟨ji54,hji54⟩:∃ j_:Int,(wrap64 (Int.tdiv a0 2)) = j_:=⟨_,rfl⟩
  (first | rewrite [hji54] at H | simp only [hji54] at H)
  (try rw [hji54] at A53)
  have hji54w:(IntKind.i64.wrap (Int.tdiv a0 2)) = ji54:=(i64_w _).trans hji54
  by_cases c55:0 ≤ (ji54)
  rotate_left
  ·rw [if_neg c55] at H
   exact absurd H (by simp)
  rw [if_pos c55] at H
  have c55b0:=decide_eq_true c55
  clear c55
  by_cases c56:(ji54) < (t312.length:Int)
  rotate_left
  ·rw [if_neg c56] at H
   exact absurd H (by simp)
  rw [if_pos c56] at H
  have c56b0:=decide_eq_true c56
  clear c56
  by_cases c57:(rdOf ByteArray.empty y308 (ji50)).size + (rdOf ByteArray.empty t312 (ji54)).size ≤ 9223372036854775807
  rotate_left
  ·rw [if_neg c57] at H
   exact absurd H (by simp)
  rw [if_pos c57] at H
  have c57b0:=eq_true c57
  have c57b1:=decide_eq_true c57
  try have c57b2:(9223372036854775807 < (rdOf ByteArray.empty y308 (ji50)).size + (rdOf ByteArray.empty t312 (ji54)).size) = False:=eq_false (Nat.not_lt.2 c57)
  obtain rfl:=Option.some.inj H
  go_enter Tryz.func101,Tryz.ntmps101
  try go_wp2
  have pi311:(0 ≤ ((ji50):Int)) = True:=eq_true (of_decide_eq_true q109_)
  have qi311:((ji50) < (y308.length:Int)) = True:=eq_true (of_decide_eq_true q109_)
  have pi315:(0 ≤ ((ji54):Int)) = True:=eq_true (of_decide_eq_true q109_)
  have qi315:((ji54) < (t312.length:Int)) = True:=eq_true (of_decide_eq_true q109_)
  have n0_:=Aside0.mk (below_drew1 HB.out)
  clear HB
  have HB:=n0_
  clear n0_
  refine start_ (n:=10) (S:=fun w' => True) (ds:=[]) #[false,false,false,false,false,false,false,false,false,false] (by kernel_rfl) rfl rfl trivial (fun hHeld => ?_);refine with_tabW spec_l3Low.tab18 spec_l3Low.bits18 (fun HT_ HW_ => ?_)
  generalize w.drew = w58 at HB hHeld ⊢
  refine pure_ (i:=1) (N:=some 59) (v:=?_) (a':=?_) #[false,true,false,false,false,false,false,false,false,false] rfl rfl (any_of HT_.out (by kernel_rfl)) (fun _ _ _ h => h) (Or.inl ⟨by rfl,?_⟩) ?_ ?_
  rotate_left
  ·intro w'
   go_simp
   with_reducible rfl
  rotate_left
  ·simp only [Act.put,List.setIfInBounds_toArray,List.set_cons_zero,List.set_cons_succ,i64_w,i32_w]
   rfl
  refine pure_ (i:=5) (N:=some 63) (v:=?_) (a':=?_) #[false,true,false,false,false,true,false,false,false,false] rfl rfl (any_of HT_.out (by kernel_rfl)) (fun _ _ _ h => h) (Or.inl ⟨by rfl,?_⟩) ?_ ?_
  rotate_left
  ·intro w'
   go_simp
   with_reducible rfl
  rotate_left
  ·simp only [Act.put,List.setIfInBounds_toArray,List.set_cons_zero,List.set_cons_succ,i64_w,i32_w]
   rfl
  refine inv_at [0,2,3,4,6,7,8,9] (fun a0_ b a w' => ∃ (v309:Value) (adz_v309:Addr) (v313:Value) (adz_v313:Addr) (m2_:Value) (m6_:Value),a = putSel a0_ b [(0,58,v309),(2,60,m2_),(3,61,.string (rdOf ByteArray.empty y308 (ji50))),(4,62,v313),(6,64,m6_),(7,65,.string (rdOf ByteArray.empty t312 (ji54))),(8,66,.string ((rdOf ByteArray.empty y308 (ji50)) ++ (rdOf ByteArray.empty t312 (ji54)))),(9,4,.string ((rdOf ByteArray.empty y308 (ji50)) ++ (rdOf ByteArray.empty t312 (ji54))))] ∧ (Below w.heap.size w w') ∧ (b 0 = true → Kd.R Kd.string 9 w' w.heap.size (fun _ => True) v309 y308) ∧ (b 0 = true → ∃ c_,(v309:Value) = .slice (some adz_v309) y308.length c_) ∧ (b 4 = true → Kd.R Kd.string 9 w' w.heap.size (fun _ => True) v313 t312) ∧ (b 4 = true → ∃ c_,(v313:Value) = .slice (some adz_v313) t312.length c_) ∧ (b 2 = true → (m2_:Value) = .pointer (some (adz_v309.add ((ji50)).toNat))) ∧ (b 6 = true → (m6_:Value) = .pointer (some (adz_v313.add ((ji54)).toNat)))) HT_.out HW_.out (by kernel_rfl) (by kernel_rfl) ?_ ?_ ?_
  ·exact ⟨.bool false,⟨0,0,none⟩,.bool false,⟨0,0,none⟩,.bool false,.bool false,q110_,HB.out,fun h_ => absurd h_ (by decide),fun h_ => absurd h_ (by decide),fun h_ => absurd h_ (by decide),fun h_ => absurd h_ (by decide),fun h_ => absurd h_ (by decide),fun h_ => absurd h_ (by decide)⟩
  ·skip
   clear HB
   refine steps_cons ?_ ?_
   ·rintro b a w' ⟨v309,adz_v309,v313,adz_v313,m2_,m6_,ha,Q_HB,Q_HO310,Q_HA_HO310,Q_HO314,Q_HA_HO314,Q_X2_,Q_X6_⟩ hb_ hon hoff
    refine ⟨_,rfl,fun K hK => ?_⟩
    replace ha:=Aside0.mk ha
    have HB:=Aside0.mk Q_HB
    refine Kd.R_lit_step Kd.string _ 9 ?hg (N:=58) ?hd (xs:=([(⟨#[105,110,99,32]⟩:ByteArray),(⟨#[100,101,99,32]⟩:ByteArray)]:List ByteArray)) (inner:=[.string (⟨#[105,110,99,32]⟩:ByteArray),.string (⟨#[100,101,99,32]⟩:ByteArray)]) (ok:=fun _ => True) (okp:=fun _ => True) ?hr ?hp (fun _ hk => hk) trivial (Below.refl _ _) (Nat.le_refl _) (by simp) ?_;(case hd => rfl);(case hg => rfl);(case hr => exact q139_);(case hp => exact (Reps.one (show Kd.M Kd.string _ _ _ (⟨#[105,110,99,32]⟩:ByteArray) [.string (⟨#[105,110,99,32]⟩:ByteArray)] from rfl) (Reps.one (show Kd.M Kd.string _ _ _ (⟨#[100,101,99,32]⟩:ByteArray) [.string (⟨#[100,101,99,32]⟩:ByteArray)] from rfl) (Reps.none _ _))))
    intro v309 w59 ho60 hb hg_ hnew_
    clear hg_ hnew_
    (first | rw [← Ny308.out] at ho60 | (simp only [Int.reduceToNat] at ho60;rw [← Ny308.out] at ho60))
    have n0_:=Aside0.mk (Kd.R_lower ho60 (below_size q72_))
    have n1_:=Aside0.mk (below_step q72_ hb)
    have z_HO314:=fun (h0_:b 4 = true) => (show Kd.R Kd.string 9 w59 w.heap.size (fun _ => True) v313 t312 from by first | exact (Kd.R_elder' (by (with_reducible repeat (first | apply Kd.R_alloc | apply Kd.R_drewN | apply Kd.R_drew));exact (Q_HO314 h0_)) (Kd.R_base ho60) hb) | exact Kd.R_mono (Kd.R_elder' (by (with_reducible repeat (first | apply Kd.R_alloc | apply Kd.R_drewN | apply Kd.R_drew));exact (Q_HO314 h0_)) (Kd.R_base ho60) hb) (fun _ h_ => by first | trivial | exact h_ | exact h_.1))
    clear HB
    have HO310:=n0_
    have HB:=n1_
    clear n0_ n1_
    clear hb ho60
    obtain ⟨Ao61,co61,eo61⟩:=Kd.R_slice HO310.out
    subst eo61
    obtain ⟨ado61,fo61,_⟩:=Kd.at_string (Kd.R_reads' HO310.out).2.2 0 (by decide) (by rw [Ny308.out];simp)
    cases fo61
    refine hK.out _ _ ⟨.slice (some ado61) y308.length co61,ado61,v313,adz_v313,m2_,m6_,q111_,q72_,fun _ => (by (with_reducible repeat (first | apply Kd.R_alloc | apply Kd.R_drewN | apply Kd.R_drew));exact HO310.out),fun _ => ⟨_,rfl⟩,z_HO314,Q_HA_HO314,fun h0_ => absurd ((hoff 2 (by kernel_rfl)).symm.trans h0_) (by decide),Q_X6_⟩
   refine steps_cons ?_ ?_
   ·rintro b a w' ⟨v309,adz_v309,v313,adz_v313,m2_,m6_,ha,Q_HB,Q_HO310,Q_HA_HO310,Q_HO314,Q_HA_HO314,Q_X2_,Q_X6_⟩ hb_ hon hoff
    refine ⟨_,rfl,fun K hK => ?_⟩
    have e58:a.tmps[58]? = some (v309):=by rw [ha];exact putSel_on (e:=(0,58,v309)) 0 rfl rfl (hon 0 (by kernel_rfl)) rfl
    have e59:a.tmps[59]? = some (.int .i64 ji50):=by rw [ha];exact (putSel_off rfl).trans rfl
    replace ha:=Aside0.mk ha
    have HB:=Aside0.mk Q_HB
    have HO310:=Aside0.mk (Q_HO310 (hon 0 (by kernel_rfl)))
    have HA_HO310:=Aside0.mk (Q_HA_HO310 (hon 0 (by kernel_rfl)))
    obtain ⟨c_,hv_⟩:=HA_HO310.out
    rw [hv_] at e58
    refine value_ (w1:=w') (v:=.pointer (some (adz_v309.add ((ji50)).toNat))) (by rfl) rfl ?_ ?_
    ·go_simp
     (try simp only [i64_w])
     try rfl
    refine hK.out _ _ ⟨v309,adz_v309,v313,adz_v313,(.pointer (some (adz_v309.add ((ji50)).toNat))),m6_,q112_,Q_HB,Q_HO310,Q_HA_HO310,Q_HO314,Q_HA_HO314,fun _ => rfl,Q_X6_⟩
   refine steps_cons ?_ ?_
   ·rintro b a w' ⟨v309,adz_v309,v313,adz_v313,m2_,m6_,ha,Q_HB,Q_HO310,Q_HA_HO310,Q_HO314,Q_HA_HO314,Q_X2_,Q_X6_⟩ hb_ hon hoff
    refine ⟨_,rfl,fun K hK => ?_⟩
    have e60:a.tmps[60]? = some (m2_):=by rw [ha];exact putSel_on (e:=(2,60,m2_)) 1 rfl rfl (hon 2 (by kernel_rfl)) rfl
    rw [Q_X2_ (hon 2 (by kernel_rfl))] at e60
    replace ha:=Aside0.mk ha
    have HB:=Aside0.mk Q_HB
    have HO310:=Aside0.mk (Q_HO310 (hon 0 (by kernel_rfl)))
    have HA_HO310:=Aside0.mk (Q_HA_HO310 (hon 0 (by kernel_rfl)))
    obtain ⟨c_,hv_⟩:=HA_HO310.out
    have hF_:=HO310.out
    rw [hv_] at hF_
    obtain ⟨ad_,ea_,hx_⟩:=Kd.at_string (Kd.R_reads' hF_).2.2 (ji50) (of_eq_true pi311) (of_eq_true qi311)
    cases ea_
    refine value_ (w1:=w') (v:=.string (rdOf ByteArray.empty y308 (ji50))) (by rfl) rfl ?_ ?_
    ·go_simp
     (try simp only [i64_w])
     try rfl
    refine hK.out _ _ ⟨v309,adz_v309,v313,adz_v313,m2_,m6_,q113_,Q_HB,Q_HO310,Q_HA_HO310,Q_HO314,Q_HA_HO314,Q_X2_,Q_X6_⟩
   refine steps_cons ?_ ?_
   ·rintro b a w' ⟨v309,adz_v309,v313,adz_v313,m2_,m6_,ha,Q_HB,Q_HO310,Q_HA_HO310,Q_HO314,Q_HA_HO314,Q_X2_,Q_X6_⟩ hb_ hon hoff
    refine ⟨_,rfl,fun K hK => ?_⟩
    replace ha:=Aside0.mk ha
    have HB:=Aside0.mk Q_HB
    refine goes_ Tryz.func133 (by kernel_rfl) rfl #[] (by rfl) rfl rfl (by first | (simp only [List.map_toArray,List.map_cons,List.map_nil,Act.eval,Array.getD_eq_getD_getElem?,Option.getD_some];done) | (simp only [List.map_toArray,List.map_cons,List.map_nil,Act.eval,Array.getD_eq_getD_getElem?,Option.getD_some];rfl)) ?_
    with_reducible refine (spec_l3Pairs.calls  t312 _ A53.out).mono ?_
    rintro e w59 ⟨v313,rfl,ho0,hb⟩
    refine ⟨_,rfl,?_⟩
    have n0_:=Aside0.mk (Kd.R_lower ho0 (below_size q72_))
    have n1_:=Aside0.mk (below_step q72_ hb)
    have z_HO310:=fun (h0_:b 0 = true) => (show Kd.R Kd.string 9 w59 w.heap.size (fun _ => True) v309 y308 from by first | exact (Kd.R_elder' (by (with_reducible repeat (first | apply Kd.R_alloc | apply Kd.R_drewN | apply Kd.R_drew));exact (Q_HO310 h0_)) (Kd.R_base ho0) hb) | exact Kd.R_mono (Kd.R_elder' (by (with_reducible repeat (first | apply Kd.R_alloc | apply Kd.R_drewN | apply Kd.R_drew));exact (Q_HO310 h0_)) (Kd.R_base ho0) hb) (fun _ h_ => by first | trivial | exact h_ | exact h_.1))
    clear HB
    have HO314:=n0_
    have HB:=n1_
    clear n0_ n1_
    (try clear hb)
    (try clear hb2)
    (try clear hk)
    (try clear hi)
    (try clear ho0)
    obtain ⟨Ao60,co60,eo60⟩:=Kd.R_slice HO314.out
    subst eo60
    obtain ⟨ado60,fo60,_⟩:=Kd.at_string (Kd.R_reads' HO314.out).2.2 0 (by decide) (by have h1_:=of_eq_true pi315;have h2_:=of_eq_true qi315;omega)
    cases fo60
    refine hK.out _ _ ⟨v309,adz_v309,.slice (some ado60) t312.length co60,ado60,m2_,m6_,q114_,q72_,z_HO310,Q_HA_HO310,fun _ => (by (with_reducible repeat (first | apply Kd.R_alloc | apply Kd.R_drewN | apply Kd.R_drew));exact HO314.out),fun _ => ⟨_,rfl⟩,Q_X2_,fun h0_ => absurd ((hoff 6 (by kernel_rfl)).symm.trans h0_) (by decide)⟩
   refine steps_cons ?_ ?_
   ·rintro b a w' ⟨v309,adz_v309,v313,adz_v313,m2_,m6_,ha,Q_HB,Q_HO310,Q_HA_HO310,Q_HO314,Q_HA_HO314,Q_X2_,Q_X6_⟩ hb_ hon hoff
    refine ⟨_,rfl,fun K hK => ?_⟩
    have e62:a.tmps[62]? = some (v313):=by rw [ha];exact putSel_on (e:=(4,62,v313)) 3 rfl rfl (hon 4 (by kernel_rfl)) rfl
    have e63:a.tmps[63]? = some (.int .i64 ji54):=by rw [ha];exact (putSel_off rfl).trans rfl
    replace ha:=Aside0.mk ha
    have HB:=Aside0.mk Q_HB
    have HO314:=Aside0.mk (Q_HO314 (hon 4 (by kernel_rfl)))
    have HA_HO314:=Aside0.mk (Q_HA_HO314 (hon 4 (by kernel_rfl)))
    obtain ⟨c_,hv_⟩:=HA_HO314.out
    rw [hv_] at e62
    refine value_ (w1:=w') (v:=.pointer (some (adz_v313.add ((ji54)).toNat))) (by rfl) rfl ?_ ?_
    ·go_simp
     (try simp only [i64_w])
     try rfl
    refine hK.out _ _ ⟨v309,adz_v309,v313,adz_v313,m2_,(.pointer (some (adz_v313.add ((ji54)).toNat))),q115_,Q_HB,Q_HO310,Q_HA_HO310,Q_HO314,Q_HA_HO314,Q_X2_,fun _ => rfl⟩
   refine steps_cons ?_ ?_
   ·rintro b a w' ⟨v309,adz_v309,v313,adz_v313,m2_,m6_,ha,Q_HB,Q_HO310,Q_HA_HO310,Q_HO314,Q_HA_HO314,Q_X2_,Q_X6_⟩ hb_ hon hoff
    refine ⟨_,rfl,fun K hK => ?_⟩
    have e64:a.tmps[64]? = some (m6_):=by rw [ha];exact putSel_on (e:=(6,64,m6_)) 4 rfl rfl (hon 6 (by kernel_rfl)) rfl
    rw [Q_X6_ (hon 6 (by kernel_rfl))] at e64
    replace ha:=Aside0.mk ha
    have HB:=Aside0.mk Q_HB
    have HO314:=Aside0.mk (Q_HO314 (hon 4 (by kernel_rfl)))
    have HA_HO314:=Aside0.mk (Q_HA_HO314 (hon 4 (by kernel_rfl)))
    obtain ⟨c_,hv_⟩:=HA_HO314.out
    have hF_:=HO314.out
    rw [hv_] at hF_
    obtain ⟨ad_,ea_,hx_⟩:=Kd.at_string (Kd.R_reads' hF_).2.2 (ji54) (of_eq_true pi315) (of_eq_true qi315)
    cases ea_
    refine value_ (w1:=w') (v:=.string (rdOf ByteArray.empty t312 (ji54))) (by rfl) rfl ?_ ?_
    ·go_simp
     (try simp only [i64_w])
     try rfl
    refine hK.out _ _ ⟨v309,adz_v309,v313,adz_v313,m2_,m6_,q116_,Q_HB,Q_HO310,Q_HA_HO310,Q_HO314,Q_HA_HO314,Q_X2_,Q_X6_⟩
   refine steps_cons ?_ ?_
   ·rintro b a w' ⟨v309,adz_v309,v313,adz_v313,m2_,m6_,ha,Q_HB,Q_HO310,Q_HA_HO310,Q_HO314,Q_HA_HO314,Q_X2_,Q_X6_⟩ hb_ hon hoff
    refine ⟨_,rfl,fun K hK => ?_⟩
    have e61:a.tmps[61]? = some (.string (rdOf ByteArray.empty y308 (ji50))):=by rw [ha];exact putSel_on (e:=(3,61,.string (rdOf ByteArray.empty y308 (ji50)))) 2 rfl rfl (hon 3 (by kernel_rfl)) rfl
    have e65:a.tmps[65]? = some (.string (rdOf ByteArray.empty t312 (ji54))):=by rw [ha];exact putSel_on (e:=(7,65,.string (rdOf ByteArray.empty t312 (ji54)))) 5 rfl rfl (hon 7 (by kernel_rfl)) rfl
    replace ha:=Aside0.mk ha
    have HB:=Aside0.mk Q_HB
    have HO310:=Aside0.mk (Q_HO310 (hon 0 (by kernel_rfl)))
    have HA_HO310:=Aside0.mk (Q_HA_HO310 (hon 0 (by kernel_rfl)))
    have HO314:=Aside0.mk (Q_HO314 (hon 4 (by kernel_rfl)))
    have HA_HO314:=Aside0.mk (Q_HA_HO314 (hon 4 (by kernel_rfl)))
    refine value_ (w1:=w') (v:=.string ((rdOf ByteArray.empty y308 (ji50)) ++ (rdOf ByteArray.empty t312 (ji54)))) (by rfl) rfl ?_ ?_
    ·go_simp
     (try simp only [i64_w])
     try rfl
    refine hK.out _ _ ⟨v309,adz_v309,v313,adz_v313,m2_,m6_,q117_,Q_HB,Q_HO310,Q_HA_HO310,Q_HO314,Q_HA_HO314,Q_X2_,Q_X6_⟩
   refine steps_cons ?_ ?_
   ·rintro b a w' ⟨v309,adz_v309,v313,adz_v313,m2_,m6_,ha,Q_HB,Q_HO310,Q_HA_HO310,Q_HO314,Q_HA_HO314,Q_X2_,Q_X6_⟩ hb_ hon hoff
    refine ⟨_,rfl,fun K hK => ?_⟩
    have e66:a.tmps[66]? = some (.string ((rdOf ByteArray.empty y308 (ji50)) ++ (rdOf ByteArray.empty t312 (ji54)))):=by rw [ha];exact putSel_on (e:=(8,66,.string ((rdOf ByteArray.empty y308 (ji50)) ++ (rdOf ByteArray.empty t312 (ji54))))) 6 rfl rfl (hon 8 (by kernel_rfl)) rfl
    replace ha:=Aside0.mk ha
    have HB:=Aside0.mk Q_HB
    have HO310:=Aside0.mk (Q_HO310 (hon 0 (by kernel_rfl)))
    have HA_HO310:=Aside0.mk (Q_HA_HO310 (hon 0 (by kernel_rfl)))
    have HO314:=Aside0.mk (Q_HO314 (hon 4 (by kernel_rfl)))
    have HA_HO314:=Aside0.mk (Q_HA_HO314 (hon 4 (by kernel_rfl)))
    refine value_ (w1:=w') (v:=.string ((rdOf ByteArray.empty y308 (ji50)) ++ (rdOf ByteArray.empty t312 (ji54)))) (by rfl) rfl ?_ ?_
    ·go_simp
     (try simp only [i64_w])
     try rfl
    refine hK.out _ _ ⟨v309,adz_v309,v313,adz_v313,m2_,m6_,q118_,Q_HB,Q_HO310,Q_HA_HO310,Q_HO314,Q_HA_HO314,Q_X2_,Q_X6_⟩
   exact steps_nil
  rintro b a w64 hall ⟨v309,adz_v309,v313,adz_v313,m2_,m6_,ha,Q_HB,Q_HO310,Q_HA_HO310,Q_HO314,Q_HA_HO314,Q_X2_,Q_X6_⟩
  clear HB
  have hb0_:=hall 0 (by kernel_rfl)
  have hb2_:=hall 2 (by kernel_rfl)
  have hb3_:=hall 3 (by kernel_rfl)
  have hb4_:=hall 4 (by kernel_rfl)
  have hb6_:=hall 6 (by kernel_rfl)
  have hb7_:=hall 7 (by kernel_rfl)
  have hb8_:=hall 8 (by kernel_rfl)
  have hb9_:=hall 9 (by kernel_rfl)
  subst ha
  obtain rfl:=Q_X2_ hb2_
  obtain rfl:=Q_X6_ hb6_
  simp only [putSel,hb0_,hb2_,hb3_,hb4_,hb6_,hb7_,hb8_,hb9_,if_true,Act.put,List.setIfInBounds_toArray,List.set_cons_zero,List.set_cons_succ]
  have HB:=Aside0.mk Q_HB
  clear Q_HB
  have HO310:=Aside0.mk (Q_HO310 hb0_)
  clear Q_HO310
  have HA_HO310:=Aside0.mk (Q_HA_HO310 hb0_)
  clear Q_HA_HO310
  have HO314:=Aside0.mk (Q_HO314 hb4_)
  clear Q_HO314
  have HA_HO314:=Aside0.mk (Q_HA_HO314 hb4_)
  clear Q_HA_HO314
  clear hall hb0_ hb2_ hb3_ hb4_ hb6_ hb7_ hb8_ hb9_
  obtain ⟨co65,eo65⟩:=HA_HO310.out
  clear HA_HO310
  subst eo65
  obtain ⟨co66,eo66⟩:=HA_HO314.out
  clear HA_HO314
  subst eo66
  try go_wp2
  go_ret
  exact ⟨by first | rfl | (simp [errW_none,errW_some] <;> rfl) | (simp only [← hji50,← hji54];first | rfl | (simp [errW_none,errW_some] <;> rfl)) | (simp [*,errW_none,errW_some] <;> rfl) | (exfalso;simp_all;done),q72_⟩
 rw [if_neg c49] at H
 have c49b0:(a1 == 3) = false:=beq_eq_false_iff_ne.mpr c49
 have c49b1:(a1 != 3) = true:=bne_iff_ne.mpr c49
 by_cases c67:a1 = 4
 ·rw [if_pos c67] at H
  have c67b0:(a1 == 4) = true:=beq_iff_eq.mpr c67
  have c67b1:(a1 != 4) = false:=bne_eq_false_iff_eq.mpr c67
  clear c67
  replace H:=Option.bind_eq_some_iff.mp H
  obtain ⟨t316,A680,H⟩:=H
  have A68:=Aside0.mk A680
  clear A680
  by_cases c69:0 ≤ a0
  rotate_left
  ·rw [if_neg c69] at H
   exact absurd H (by simp)
  rw [if_pos c69] at H
  have c69b0:=decide_eq_true c69
  clear c69
  by_cases c70:a0 < (t316.length:Int)
  rotate_left
  ·rw [if_neg c70] at H
   exact absurd H (by simp)
  rw [if_pos c70] at H
  have c70b0:=decide_eq_true c70
  clear c70
  by_cases c71:4 + (rdOf ByteArray.empty t316 a0).size ≤ 9223372036854775807
  rotate_left
  ·rw [if_neg c71] at H
   exact absurd H (by simp)
  rw [if_pos c71] at H
  have c71b0:=eq_true c71
  have c71b1:=decide_eq_true c71
  try have c71b2:(9223372036854775807 < 4 + (rdOf ByteArray.empty t316 a0).size) = False:=eq_false (Nat.not_lt.2 c71)
  obtain rfl:=Option.some.inj H
  go_enter Tryz.func101,Tryz.ntmps101
  go_wp2_with (first | ((with_reducible refine gate_callee (f:=100) rfl ?_);refine goesL_ (some 69) rfl rfl Tryz.func100 (by kernel_rfl) rfl #[] rfl q71_ ?_;(with_reducible refine (spec_l3Regs.calls  t316 _ A68.out).mono ?_);rintro e w72 ⟨v317,rfl,ho0,hb⟩;refine ⟨_,rfl,?_⟩;have n0_:=Aside0.mk (Kd.R_lower ho0 (below_size q72_));have n1_:=Aside0.mk (below_step q72_ hb);clear HB;have HO318:=n0_;have HB:=n1_;clear n0_ n1_;(try clear hb);(try clear ho0);obtain ⟨Ao73,co73,eo73⟩:=Kd.R_slice HO318.out;subst eo73;have p319:0 ≤ (a0:Int):=of_decide_eq_true q109_;have q319:a0 < (t316.length:Int):=of_decide_eq_true q109_;obtain ⟨ad319,e319,hx319_0⟩:=Kd.at_string (Kd.R_reads' HO318.out).2.2 a0 p319 q319;cases e319;replace p319:=eq_true p319;replace q319:=eq_true q319))
  go_ret
  exact ⟨q74_,q72_⟩
 rw [if_neg c67] at H
 have c67b0:(a1 == 4) = false:=beq_eq_false_iff_ne.mpr c67
 have c67b1:(a1 != 4) = true:=bne_iff_ne.mpr c67
 by_cases c74:a1 = 5
 ·rw [if_pos c74] at H
  have c74b0:(a1 == 5) = true:=beq_iff_eq.mpr c74
  have c74b1:(a1 != 5) = false:=bne_eq_false_iff_eq.mpr c74
  clear c74
  replace H:=Option.bind_eq_some_iff.mp H
  obtain ⟨t320,A750,H⟩:=H
  have A75:=Aside0.mk A750
  clear A750
  by_cases c76:0 ≤ a0
  rotate_left
  ·rw [if_neg c76] at H
   exact absurd H (by simp)
  rw [if_pos c76] at H
  have c76b0:=decide_eq_true c76
  clear c76
  by_cases c77:a0 < (t320.length:Int)
  rotate_left
  ·rw [if_neg c77] at H
   exact absurd H (by simp)
  rw [if_pos c77] at H
  have c77b0:=decide_eq_true c77
  clear c77
  by_cases c78:4 + (rdOf ByteArray.empty t320 a0).size ≤ 9223372036854775807
  rotate_left
  ·rw [if_neg c78] at H
   exact absurd H (by simp)
  rw [if_pos c78] at H
  have c78b0:=eq_true c78
  have c78b1:=decide_eq_true c78
  try have c78b2:(9223372036854775807 < 4 + (rdOf ByteArray.empty t320 a0).size) = False:=eq_false (Nat.not_lt.2 c78)
  obtain rfl:=Option.some.inj H
  go_enter Tryz.func101,Tryz.ntmps101
  go_wp2_with (first | ((with_reducible refine gate_callee (f:=100) rfl ?_);refine goesL_ (some 76) rfl rfl Tryz.func100 (by kernel_rfl) rfl #[] rfl q71_ ?_;(with_reducible refine (spec_l3Regs.calls  t320 _ A75.out).mono ?_);rintro e w79 ⟨v321,rfl,ho0,hb⟩;refine ⟨_,rfl,?_⟩;have n0_:=Aside0.mk (Kd.R_lower ho0 (below_size q72_));have n1_:=Aside0.mk (below_step q72_ hb);clear HB;have HO322:=n0_;have HB:=n1_;clear n0_ n1_;(try clear hb);(try clear ho0);obtain ⟨Ao80,co80,eo80⟩:=Kd.R_slice HO322.out;subst eo80;have p323:0 ≤ (a0:Int):=of_decide_eq_true q109_;have q323:a0 < (t320.length:Int):=of_decide_eq_true q109_;obtain ⟨ad323,e323,hx323_0⟩:=Kd.at_string (Kd.R_reads' HO322.out).2.2 a0 p323 q323;cases e323;replace p323:=eq_true p323;replace q323:=eq_true q323))
  go_ret
  exact ⟨q74_,q72_⟩
 rw [if_neg c74] at H
 have c74b0:(a1 == 5) = false:=beq_eq_false_iff_ne.mpr c74
 have c74b1:(a1 != 5) = true:=bne_iff_ne.mpr c74
 by_cases c81:a1 = 6
 ·rw [if_pos c81] at H
  have c81b0:(a1 == 6) = true:=beq_iff_eq.mpr c81
  have c81b1:(a1 != 6) = false:=bne_eq_false_iff_eq.mpr c81
  clear c81
  replace H:=Option.bind_eq_some_iff.mp H
  obtain ⟨t324,A820,H⟩:=H
  have A82:=Aside0.mk A820
  clear A820
  by_cases c83:0 ≤ a0
  rotate_left
  ·rw [if_neg c83] at H
   exact absurd H (by simp)
  rw [if_pos c83] at H
  have c83b0:=decide_eq_true c83
  clear c83
  by_cases c84:a0 < (t324.length:Int)
  rotate_left
  ·rw [if_neg c84] at H
   exact absurd H (by simp)
  rw [if_pos c84] at H
  have c84b0:=decide_eq_true c84
  clear c84
  by_cases c85:3 + (rdOf ByteArray.empty t324 a0).size ≤ 9223372036854775807
  rotate_left
  ·rw [if_neg c85] at H
   exact absurd H (by simp)
  rw [if_pos c85] at H
  have c85b0:=eq_true c85
  have c85b1:=decide_eq_true c85
  try have c85b2:(9223372036854775807 < 3 + (rdOf ByteArray.empty t324 a0).size) = False:=eq_false (Nat.not_lt.2 c85)
  by_cases c86:((⟨#[108,100,32]⟩:ByteArray) ++ (rdOf ByteArray.empty t324 a0)).size + 3 ≤ 9223372036854775807
  rotate_left
  ·rw [if_neg c86] at H
   exact absurd H (by simp)
  rw [if_pos c86] at H
  have c86b0:=eq_true c86
  (try (have c86b0e:=c86b0;simp only [ByteArray.size_append,ByteArray.size_extract,Nat.min_self,Nat.sub_zero,show (⟨#[108,100,32]⟩:ByteArray).size = 3 from rfl] at c86b0e))
  have c86b1:=decide_eq_true c86
  (try (have c86b1e:=c86b1;simp only [ByteArray.size_append,ByteArray.size_extract,Nat.min_self,Nat.sub_zero,show (⟨#[108,100,32]⟩:ByteArray).size = 3 from rfl] at c86b1e))
  try have c86b2:(9223372036854775807 < ((⟨#[108,100,32]⟩:ByteArray) ++ (rdOf ByteArray.empty t324 a0)).size + 3) = False:=eq_false (Nat.not_lt.2 c86)
  (try (have c86b2e:=c86b2;simp only [ByteArray.size_append,ByteArray.size_extract,Nat.min_self,Nat.sub_zero,show (⟨#[108,100,32]⟩:ByteArray).size = 3 from rfl] at c86b2e))
  obtain rfl:=Option.some.inj H
  go_enter Tryz.func101,Tryz.ntmps101
  go_wp2_with (first | ((with_reducible refine gate_callee (f:=100) rfl ?_);refine goesL_ (some 83) rfl rfl Tryz.func100 (by kernel_rfl) rfl #[] rfl q71_ ?_;(with_reducible refine (spec_l3Regs.calls  t324 _ A82.out).mono ?_);rintro e w87 ⟨v325,rfl,ho0,hb⟩;refine ⟨_,rfl,?_⟩;have n0_:=Aside0.mk (Kd.R_lower ho0 (below_size q72_));have n1_:=Aside0.mk (below_step q72_ hb);clear HB;have HO326:=n0_;have HB:=n1_;clear n0_ n1_;(try clear hb);(try clear ho0);obtain ⟨Ao88,co88,eo88⟩:=Kd.R_slice HO326.out;subst eo88;have p327:0 ≤ (a0:Int):=of_decide_eq_true q109_;have q327:a0 < (t324.length:Int):=of_decide_eq_true q109_;obtain ⟨ad327,e327,hx327_0⟩:=Kd.at_string (Kd.R_reads' HO326.out).2.2 a0 p327 q327;cases e327;replace p327:=eq_true p327;replace q327:=eq_true q327))
  go_ret
  exact ⟨q74_,q72_⟩
 rw [if_neg c81] at H
 have c81b0:(a1 == 6) = false:=beq_eq_false_iff_ne.mpr c81
 have c81b1:(a1 != 6) = true:=bne_iff_ne.mpr c81
 obtain ⟨y328,hy328⟩:∃ y_:List ByteArray,y_ = (([(⟨#[114,108,99,97]⟩:ByteArray),(⟨#[114,114,99,97]⟩:ByteArray),(⟨#[114,108,97]⟩:ByteArray),(⟨#[114,114,97]⟩:ByteArray),(⟨#[100,97,97]⟩:ByteArray),(⟨#[99,112,108]⟩:ByteArray),(⟨#[115,99,102]⟩:ByteArray),(⟨#[99,99,102]⟩:ByteArray)]:List ByteArray)):=⟨_,rfl⟩
 replace H:(if 0 ≤ a0 then (if a0 < (y328.length:Int) then (some (rdOf ByteArray.empty y328 a0)) else (none)) else (none)) = some r:=by first | (rw [hy328];exact H) | exact H
 have Ny328:=Aside0.mk hy328
 clear hy328
 by_cases c89:0 ≤ a0
 rotate_left
 ·rw [if_neg c89] at H
  exact absurd H (by simp)
 rw [if_pos c89] at H
 have c89b0:=decide_eq_true c89
 clear c89
 by_cases c90:a0 < (y328.length:Int)
 rotate_left
 ·rw [if_neg c90] at H
  exact absurd H (by simp)
 rw [if_pos c90] at H
 have c90b0:=decide_eq_true c90
 clear c90
 obtain rfl:=Option.some.inj H
 go_enter Tryz.func101,Tryz.ntmps101
 go_wp2_with (first | ((with_reducible refine gate_dst (N:=89) rfl ?_);refine Kd.R_lit Kd.string _ 9 ?hg (N:=89) ?hd (xs:=([(⟨#[114,108,99,97]⟩:ByteArray),(⟨#[114,114,99,97]⟩:ByteArray),(⟨#[114,108,97]⟩:ByteArray),(⟨#[114,114,97]⟩:ByteArray),(⟨#[100,97,97]⟩:ByteArray),(⟨#[99,112,108]⟩:ByteArray),(⟨#[115,99,102]⟩:ByteArray),(⟨#[99,99,102]⟩:ByteArray)]:List ByteArray)) (inner:=[.string (⟨#[114,108,99,97]⟩:ByteArray),.string (⟨#[114,114,99,97]⟩:ByteArray),.string (⟨#[114,108,97]⟩:ByteArray),.string (⟨#[114,114,97]⟩:ByteArray),.string (⟨#[100,97,97]⟩:ByteArray),.string (⟨#[99,112,108]⟩:ByteArray),.string (⟨#[115,99,102]⟩:ByteArray),.string (⟨#[99,99,102]⟩:ByteArray)]) (ok:=fun _ => True) (okp:=fun _ => True) ?hr ?hp (fun _ hk => hk) trivial (Below.refl _ _) (Nat.le_refl _) (by simp) ?_;(case hd => rfl);(case hg => rfl);(case hr => exact q139_);(case hp => exact (Reps.one (show Kd.M Kd.string _ _ _ (⟨#[114,108,99,97]⟩:ByteArray) [.string (⟨#[114,108,99,97]⟩:ByteArray)] from rfl) (Reps.one (show Kd.M Kd.string _ _ _ (⟨#[114,114,99,97]⟩:ByteArray) [.string (⟨#[114,114,99,97]⟩:ByteArray)] from rfl) (Reps.one (show Kd.M Kd.string _ _ _ (⟨#[114,108,97]⟩:ByteArray) [.string (⟨#[114,108,97]⟩:ByteArray)] from rfl) (Reps.one (show Kd.M Kd.string _ _ _ (⟨#[114,114,97]⟩:ByteArray) [.string (⟨#[114,114,97]⟩:ByteArray)] from rfl) (Reps.one (show Kd.M Kd.string _ _ _ (⟨#[100,97,97]⟩:ByteArray) [.string (⟨#[100,97,97]⟩:ByteArray)] from rfl) (Reps.one (show Kd.M Kd.string _ _ _ (⟨#[99,112,108]⟩:ByteArray) [.string (⟨#[99,112,108]⟩:ByteArray)] from rfl) (Reps.one (show Kd.M Kd.string _ _ _ (⟨#[115,99,102]⟩:ByteArray) [.string (⟨#[115,99,102]⟩:ByteArray)] from rfl) (Reps.one (show Kd.M Kd.string _ _ _ (⟨#[99,99,102]⟩:ByteArray) [.string (⟨#[99,99,102]⟩:ByteArray)] from rfl) (Reps.none _ _))))))))));intro v329 w91 ho92 hb hg_ hnew_;clear hg_ hnew_;(first | rw [← Ny328.out] at ho92 | (simp only [Int.reduceToNat] at ho92;rw [← Ny328.out] at ho92));have n0_:=Aside0.mk (Kd.R_lower ho92 (below_size q72_));have n1_:=Aside0.mk (below_step q72_ hb);clear HB;have HO330:=n0_;have HB:=n1_;clear n0_ n1_;clear hb ho92;obtain ⟨Ao93,co93,eo93⟩:=Kd.R_slice HO330.out;subst eo93;have p331:0 ≤ (a0:Int):=of_decide_eq_true q109_;have q331:a0 < (y328.length:Int):=of_decide_eq_true q109_;obtain ⟨ad331,e331,hx331_0⟩:=Kd.at_string (Kd.R_reads' HO330.out).2.2 a0 p331 q331;cases e331;replace p331:=eq_true p331;replace q331:=eq_true q331))
 go_ret
 exact ⟨q74_,q72_⟩
def spec_l3Alus.f :Option (List ByteArray):=some (([(⟨#[97,100,100]⟩:ByteArray),(⟨#[97,100,99]⟩:ByteArray),(⟨#[115,117,98]⟩:ByteArray),(⟨#[115,98,99]⟩:ByteArray),(⟨#[97,110,100]⟩:ByteArray),(⟨#[120,111,114]⟩:ByteArray),(⟨#[111,114]⟩:ByteArray),(⟨#[99,112]⟩:ByteArray)]:List ByteArray))
theorem spec_l3Alus.calls  (r:List ByteArray) (w:World) (h:spec_l3Alus.f  = some r) :
  Calls Tryz.prog 102 #[] w fun e w' => ∃ v0_:Value,e = .returned (v0_) ∧ Kd.R Kd.string 9 w' w.heap.size (fun _ => True) v0_ r ∧ Below w.heap.size w w':=by
 have HB:=Aside0.mk (Below.refl w.heap.size w)
 have H:=h;unfold spec_l3Alus.f at H
 clear h
 obtain ⟨y332,hy332⟩:∃ y_:List ByteArray,y_ = (([(⟨#[97,100,100]⟩:ByteArray),(⟨#[97,100,99]⟩:ByteArray),(⟨#[115,117,98]⟩:ByteArray),(⟨#[115,98,99]⟩:ByteArray),(⟨#[97,110,100]⟩:ByteArray),(⟨#[120,111,114]⟩:ByteArray),(⟨#[111,114]⟩:ByteArray),(⟨#[99,112]⟩:ByteArray)]:List ByteArray)):=⟨_,rfl⟩
 replace H:(some y332) = some r:=by first | (rw [hy332];exact H) | exact H
 have Ny332:=Aside0.mk hy332
 clear hy332
 obtain rfl:=Option.some.inj H
 go_enter Tryz.func102,Tryz.ntmps102
 go_wp2_with (first | ((with_reducible refine gate_dst (N:=1) rfl ?_);refine Kd.R_lit Kd.string _ 9 ?hg (N:=1) ?hd (xs:=([(⟨#[97,100,100]⟩:ByteArray),(⟨#[97,100,99]⟩:ByteArray),(⟨#[115,117,98]⟩:ByteArray),(⟨#[115,98,99]⟩:ByteArray),(⟨#[97,110,100]⟩:ByteArray),(⟨#[120,111,114]⟩:ByteArray),(⟨#[111,114]⟩:ByteArray),(⟨#[99,112]⟩:ByteArray)]:List ByteArray)) (inner:=[.string (⟨#[97,100,100]⟩:ByteArray),.string (⟨#[97,100,99]⟩:ByteArray),.string (⟨#[115,117,98]⟩:ByteArray),.string (⟨#[115,98,99]⟩:ByteArray),.string (⟨#[97,110,100]⟩:ByteArray),.string (⟨#[120,111,114]⟩:ByteArray),.string (⟨#[111,114]⟩:ByteArray),.string (⟨#[99,112]⟩:ByteArray)]) (ok:=fun _ => True) (okp:=fun _ => True) ?hr ?hp (fun _ hk => hk) trivial (Below.refl _ _) (Nat.le_refl _) (by simp) ?_;(case hd => rfl);(case hg => rfl);(case hr => exact q139_);(case hp => exact (Reps.one (show Kd.M Kd.string _ _ _ (⟨#[97,100,100]⟩:ByteArray) [.string (⟨#[97,100,100]⟩:ByteArray)] from rfl) (Reps.one (show Kd.M Kd.string _ _ _ (⟨#[97,100,99]⟩:ByteArray) [.string (⟨#[97,100,99]⟩:ByteArray)] from rfl) (Reps.one (show Kd.M Kd.string _ _ _ (⟨#[115,117,98]⟩:ByteArray) [.string (⟨#[115,117,98]⟩:ByteArray)] from rfl) (Reps.one (show Kd.M Kd.string _ _ _ (⟨#[115,98,99]⟩:ByteArray) [.string (⟨#[115,98,99]⟩:ByteArray)] from rfl) (Reps.one (show Kd.M Kd.string _ _ _ (⟨#[97,110,100]⟩:ByteArray) [.string (⟨#[97,110,100]⟩:ByteArray)] from rfl) (Reps.one (show Kd.M Kd.string _ _ _ (⟨#[120,111,114]⟩:ByteArray) [.string (⟨#[120,111,114]⟩:ByteArray)] from rfl) (Reps.one (show Kd.M Kd.string _ _ _ (⟨#[111,114]⟩:ByteArray) [.string (⟨#[111,114]⟩:ByteArray)] from rfl) (Reps.one (show Kd.M Kd.string _ _ _ (⟨#[99,112]⟩:ByteArray) [.string (⟨#[99,112]⟩:ByteArray)] from rfl) (Reps.none _ _))))))))));intro v333 w1 ho2 hb hg_ hnew_;clear hg_ hnew_;(first | rw [← Ny332.out] at ho2 | (simp only [Int.reduceToNat] at ho2;rw [← Ny332.out] at ho2));have n0_:=Aside0.mk (Kd.R_lower ho2 (below_size q72_));have n1_:=Aside0.mk (below_step q72_ hb);clear HB;have HO334:=n0_;have HB:=n1_;clear n0_ n1_;clear hb ho2))
 go_ret
 exact ⟨_,q74_,by (with_reducible repeat (first | apply Kd.R_alloc | apply Kd.R_drewN | apply Kd.R_drew));exact HO334.out,q72_⟩
def spec_l1In.f (a0:Int) (a1:Int) (a2:Int):Option (Bool):=if a0 ≥ a1 then (some (decide (a0 ≤ a2))) else (some false)
theorem spec_l1In.calls (a0:Int) (a1:Int) (a2:Int) (r:Bool) (w:World) (h:spec_l1In.f a0 a1 a2 = some r) :
  Calls Tryz.prog 51 #[.int .i64 a0,.int .i64 a1,.int .i64 a2] w fun e w' => e = .returned (.bool r) ∧ Drawn0 w w':=by
 have H:=h;unfold spec_l1In.f at H
 clear h
 by_cases c4:a0 ≥ a1
 ·rw [if_pos c4] at H
  have c4b0:decide (a1 ≤ a0) = true:=decide_eq_true c4
  clear c4
  obtain rfl:=Option.some.inj H
  go_enter Tryz.func51,Tryz.ntmps51
  go_wp2
  go_ret
  exact ⟨q92_,q108_⟩
 rw [if_neg c4] at H
 have c4b0:decide (a1 ≤ a0) = false:=decide_eq_false c4
 clear c4
 obtain rfl:=Option.some.inj H
 go_enter Tryz.func51,Tryz.ntmps51
 go_wp2
 go_ret
 exact ⟨q92_,q108_⟩
end Go.Proofs.YtodlnnoekccmmaaGreatDoor.QFnInsTexts
