/- The machine's side of a law,written by a program of this session for this claim. -/
import Derived.Test.YtodlnnoekccmmaaGreatDoorIQq
import Derived.Test.YtodlnnoekccmmaaGreatDoorIQFnInsTextsx0
import Derived.Test.YtodlnnoekccmmaaGreatDoorIQFnInsTextsx2
namespace Go.Proofs.YtodlnnoekccmmaaGreatDoor.QFnInsTexts
open Go.Proofs.YtodlnnoekccmmaaGreatDoor.Qq
open Go.RowKit Go.Proofs.YtodlnnoekccmmaaGreatDoor.LibX Go.Proofs.YtodlnnoekccmmaaGreatDoor.LibE Go.Proofs.YtodlnnoekccmmaaGreatDoor.LibCB Go.Proofs.YtodlnnoekccmmaaGreatDoorW.PrintWords Go.Proofs.YtodlnnoekccmmaaGreatDoorW.PrintLast Go.Proofs.YtodlnnoekccmmaaGreatDoorW.PrintMore
attribute [local go_sem] max2_int min2_int max_two min_two max_three min_three max_four min_four   -- for this text's walks alone
set_option maxHeartbeats 8000000
set_option maxRecDepth 100000
set_option linter.unusedVariables false
set_option linter.unusedSimpArgs false
def impl_low.j0:Nat → Int → Int → Int → Bool → Option (ByteArray)
 | 0,_,_,_,_ => none
 | k + 1,x0,x1,x12,x68 => if x68 = true then ((impl_names.f (⟨#[105,110,99,32,100,101,99]⟩:ByteArray)).bind fun t163 => (if 0 ≤ (wrap64 (x1 - 4)) then (if (wrap64 (x1 - 4)) < (t163.length:Int) then (if (rdOf ByteArray.empty t163 (wrap64 (x1 - 4))).size + 1 ≤ 9223372036854775807 then ((impl_regs.f).bind fun t167 => (if 0 ≤ x0 then (if x0 < (t167.length:Int) then (if ((rdOf ByteArray.empty t163 (wrap64 (x1 - 4))) ++ (⟨#[32]⟩:ByteArray)).size + (rdOf ByteArray.empty t167 x0).size ≤ 9223372036854775807 then (some (((rdOf ByteArray.empty t163 (wrap64 (x1 - 4))) ++ (⟨#[32]⟩:ByteArray)) ++ (rdOf ByteArray.empty t167 x0))) else (none)) else (none)) else (none))) else (none)) else (none)) else (none))) else (if x12 = 6 then ((impl_regs.f).bind fun t171 => (if 0 ≤ x0 then (if x0 < (t171.length:Int) then (if 3 + (rdOf ByteArray.empty t171 x0).size ≤ 9223372036854775807 then (if ((⟨#[108,100,32]⟩:ByteArray) ++ (rdOf ByteArray.empty t171 x0)).size + 3 ≤ 9223372036854775807 then (some (((⟨#[108,100,32]⟩:ByteArray) ++ (rdOf ByteArray.empty t171 x0)) ++ (⟨#[44,110,56]⟩:ByteArray))) else (none)) else (none)) else (none)) else (none))) else ((impl_names.f (⟨#[114,108,99,97,32,114,114,99,97,32,114,108,97,32,114,114,97,32,100,97,97,32,99,112,108,32,115,99,102,32,99,99,102]⟩:ByteArray)).bind fun t175 => (if 0 ≤ x0 then (if x0 < (t175.length:Int) then (some (rdOf ByteArray.empty t175 x0)) else (none)) else (none))))
def impl_low.f (k:Nat) (a0:Int) (a1:Int):Option (ByteArray):=if a1 = 0 then (if a0 ≥ 4 then ((impl_conds.f).bind fun t135 => (if 0 ≤ (wrap64 (a0 - 4)) then (if (wrap64 (a0 - 4)) < (t135.length:Int) then (if 3 + (rdOf ByteArray.empty t135 (wrap64 (a0 - 4))).size ≤ 9223372036854775807 then (if ((⟨#[106,114,32]⟩:ByteArray) ++ (rdOf ByteArray.empty t135 (wrap64 (a0 - 4)))).size + 3 ≤ 9223372036854775807 then (some (((⟨#[106,114,32]⟩:ByteArray) ++ (rdOf ByteArray.empty t135 (wrap64 (a0 - 4)))) ++ (⟨#[44,101,56]⟩:ByteArray))) else (none)) else (none)) else (none)) else (none))) else ((some (([(⟨#[110,111,112]⟩:ByteArray),(⟨#[108,100,32,91,110,49,54,93,44,115,112]⟩:ByteArray),(⟨#[115,116,111,112,32,110,56]⟩:ByteArray),(⟨#[106,114,32,101,56]⟩:ByteArray)]:List ByteArray):List ByteArray)).bind fun y139 => (if 0 ≤ a0 then (if a0 < (y139.length:Int) then (some (rdOf ByteArray.empty y139 a0)) else (none)) else (none)))) else (if a1 = 1 then (if (Int.tmod a0 2) = 0 then ((impl_pairs.f).bind fun t143 => (if 0 ≤ (wrap64 (Int.tdiv a0 2)) then (if (wrap64 (Int.tdiv a0 2)) < (t143.length:Int) then (if 3 + (rdOf ByteArray.empty t143 (wrap64 (Int.tdiv a0 2))).size ≤ 9223372036854775807 then (if ((⟨#[108,100,32]⟩:ByteArray) ++ (rdOf ByteArray.empty t143 (wrap64 (Int.tdiv a0 2)))).size + 4 ≤ 9223372036854775807 then (some (((⟨#[108,100,32]⟩:ByteArray) ++ (rdOf ByteArray.empty t143 (wrap64 (Int.tdiv a0 2)))) ++ (⟨#[44,110,49,54]⟩:ByteArray))) else (none)) else (none)) else (none)) else (none))) else ((impl_pairs.f).bind fun t147 => (if 0 ≤ (wrap64 (Int.tdiv a0 2)) then (if (wrap64 (Int.tdiv a0 2)) < (t147.length:Int) then (if 7 + (rdOf ByteArray.empty t147 (wrap64 (Int.tdiv a0 2))).size ≤ 9223372036854775807 then (some ((⟨#[97,100,100,32,104,108,44]⟩:ByteArray) ++ (rdOf ByteArray.empty t147 (wrap64 (Int.tdiv a0 2))))) else (none)) else (none)) else (none)))) else (if a1 = 2 then ((impl_names.f (⟨#[91,98,99,93,32,91,100,101,93,32,91,104,108,43,93,32,91,104,108,45,93]⟩:ByteArray)).bind fun t151 => (if 0 ≤ (wrap64 (Int.tdiv a0 2)) then (if (wrap64 (Int.tdiv a0 2)) < (t151.length:Int) then (if (Int.tmod a0 2) = 0 then (if 3 + (rdOf ByteArray.empty t151 (wrap64 (Int.tdiv a0 2))).size ≤ 9223372036854775807 then (if ((⟨#[108,100,32]⟩:ByteArray) ++ (rdOf ByteArray.empty t151 (wrap64 (Int.tdiv a0 2)))).size + 2 ≤ 9223372036854775807 then (some (((⟨#[108,100,32]⟩:ByteArray) ++ (rdOf ByteArray.empty t151 (wrap64 (Int.tdiv a0 2)))) ++ (⟨#[44,97]⟩:ByteArray))) else (none)) else (none)) else (if 5 + (rdOf ByteArray.empty t151 (wrap64 (Int.tdiv a0 2))).size ≤ 9223372036854775807 then (some ((⟨#[108,100,32,97,44]⟩:ByteArray) ++ (rdOf ByteArray.empty t151 (wrap64 (Int.tdiv a0 2))))) else (none))) else (none)) else (none))) else (if a1 = 3 then ((impl_names.f (⟨#[105,110,99,32,100,101,99]⟩:ByteArray)).bind fun t155 => (if 0 ≤ (Int.tmod a0 2) then (if (Int.tmod a0 2) < (t155.length:Int) then (if (rdOf ByteArray.empty t155 (Int.tmod a0 2)).size + 1 ≤ 9223372036854775807 then ((impl_pairs.f).bind fun t159 => (if 0 ≤ (wrap64 (Int.tdiv a0 2)) then (if (wrap64 (Int.tdiv a0 2)) < (t159.length:Int) then (if ((rdOf ByteArray.empty t155 (Int.tmod a0 2)) ++ (⟨#[32]⟩:ByteArray)).size + (rdOf ByteArray.empty t159 (wrap64 (Int.tdiv a0 2))).size ≤ 9223372036854775807 then (some (((rdOf ByteArray.empty t155 (Int.tmod a0 2)) ++ (⟨#[32]⟩:ByteArray)) ++ (rdOf ByteArray.empty t159 (wrap64 (Int.tdiv a0 2))))) else (none)) else (none)) else (none))) else (none)) else (none)) else (none))) else (if a1 = 4 then (impl_low.j0 k a0 a1 a1 (a1 == 4)) else (impl_low.j0 k a0 a1 a1 (a1 == 5))))))
theorem impl_low.mono_l:∀ k,(∀ y0 y1 y2 y3,LeO (impl_low.j0 k y0 y1 y2 y3) (impl_low.j0 (k + 1) y0 y1 y2 y3))
 | 0 => fun _ _ _ _ r h => by simp [impl_low.j0] at h
 | k + 1 => by
  have ih0:=impl_low.mono_l k
  intro y0 y1 y2 y3
  unfold impl_low.j0
  repeat' first
  | (with_reducible first | exact ih0 _ _ _ _ | exact LeO.refl _ | exact LeO.none _ | refine LeO.ite ?_ ?_ | refine LeO.bind ?_ (fun _ => ?_))
  | exact ih0 _ _ _ _
  | exact LeO.none _
  | refine LeO.ite ?_ ?_
  | refine LeO.bind ?_ (fun _ => ?_)
theorem impl_low.mono:∀ a0 a1 k,LeO (impl_low.f k a0 a1) (impl_low.f (k + 1) a0 a1):=by
 intro a0 a1 k
 have ih0:=impl_low.mono_l k
 unfold impl_low.f
 repeat' first
   | (with_reducible first | exact ih0 _ _ _ _ | exact LeO.refl _ | exact LeO.none _ | refine LeO.ite ?_ ?_ | refine LeO.bind ?_ (fun _ => ?_))
   | exact ih0 _ _ _ _
   | exact LeO.none _
   | refine LeO.ite ?_ ?_
   | refine LeO.bind ?_ (fun _ => ?_)
def impl_low.T17:Bool × List (List Nat × List Nat):=(true,[([],[]),([],[]),([0,1],[0,1]),([2],[2]),([3],[3]),([0],[]),([],[]),([5,6],[5,6]),([7],[7]),([4,8],[4,8]),([9,5,0,1,2,3,4,5,6,7,8,9],[9])])
def impl_low.B17:List Nat:=[0,0,3,7,15,1,0,97,225,511,1023]
theorem impl_low.tab17:rtab .any (opsOf Tryz.f93 17) = impl_low.T17:=by kernel_rfl
theorem impl_low.bits17:waitsOk impl_low.T17.2 impl_low.B17 = true:=by kernel_rfl
def impl_low.T20:Bool × List (List Nat × List Nat):=(true,[([],[]),([],[]),([1],[1]),([0,2],[0,2]),([3],[3]),([4],[4]),([0],[]),([],[]),([6,7],[6,7]),([8],[8]),([5,9],[5,9]),([10,6,0,1,2,3,4,5,6,7,8,9,10],[10])])
def impl_low.B20:List Nat:=[0,0,2,7,15,31,1,0,193,449,1023,2047]
theorem impl_low.tab20:rtab .any (opsOf Tryz.f93 20) = impl_low.T20:=by kernel_rfl
theorem impl_low.bits20:waitsOk impl_low.T20.2 impl_low.B20 = true:=by kernel_rfl
theorem impl_low.calls (k:Nat) (a0:Int) (a1:Int) (r:ByteArray) (w:World) (h:impl_low.f k a0 a1 = some r) (hG:Go.Proofs.YtodlnnoekccmmaaGreatDoor.LibW.GL w:=by first | exact hG | exact hG.below q10_ | exact hG.drewN _) :
  Calls Tryz.prog 93 #[.int .i64 a0,.int .i64 a1] w fun e w' => e = .returned (.string r) ∧ Below w.heap.size w w':=by
 have HB:=Aside0.mk (Below.refl w.heap.size w)
 have H:=h;unfold impl_low.f at H
 clear h
 by_cases c3:a1 = 0
 ·rw [if_pos c3] at H
  have c3b0:(a1 == 0) = true:=beq_iff_eq.mpr c3
  have c3b1:(a1 != 0) = false:=bne_eq_false_iff_eq.mpr c3
  clear c3
  by_cases c4:a0 ≥ 4
  ·rw [if_pos c4] at H
   have c4b0:decide (4 ≤ a0) = true:=decide_eq_true c4
   clear c4
   replace H:=Option.bind_eq_some_iff.mp H
   obtain ⟨t135,A50,H⟩:=H
   have A5:=Aside0.mk A50
   clear A50
   obtain ⟨ji6,hji6⟩:∃ j_:Int,(wrap64 (a0 - 4)) = j_:=⟨_,rfl⟩
   (first | rewrite [hji6] at H | simp only [hji6] at H)
   (try rw [hji6] at A5)
   have hji6w:(IntKind.i64.wrap (a0 - 4)) = ji6:=(i64_w _).trans hji6
   by_cases c7:0 ≤ (ji6)
   rotate_left
   ·rw [if_neg c7] at H
    exact absurd H (by simp)
   rw [if_pos c7] at H
   have c7b0:=decide_eq_true c7
   clear c7
   by_cases c8:(ji6) < (t135.length:Int)
   rotate_left
   ·rw [if_neg c8] at H
    exact absurd H (by simp)
   rw [if_pos c8] at H
   have c8b0:=decide_eq_true c8
   clear c8
   by_cases c9:3 + (rdOf ByteArray.empty t135 (ji6)).size ≤ 9223372036854775807
   rotate_left
   ·rw [if_neg c9] at H
    exact absurd H (by simp)
   rw [if_pos c9] at H
   have c9b0:=eq_true c9
   have c9b1:=decide_eq_true c9
   try have c9b2:(9223372036854775807 < 3 + (rdOf ByteArray.empty t135 (ji6)).size) = False:=eq_false (Nat.not_lt.2 c9)
   by_cases c10:((⟨#[106,114,32]⟩:ByteArray) ++ (rdOf ByteArray.empty t135 (ji6))).size + 3 ≤ 9223372036854775807
   rotate_left
   ·rw [if_neg c10] at H
    exact absurd H (by simp)
   rw [if_pos c10] at H
   have c10b0:=eq_true c10
   (try (have c10b0e:=c10b0;simp only [ByteArray.size_append,ByteArray.size_extract,Nat.min_self,Nat.sub_zero,show (⟨#[106,114,32]⟩:ByteArray).size = 3 from rfl] at c10b0e))
   have c10b1:=decide_eq_true c10
   (try (have c10b1e:=c10b1;simp only [ByteArray.size_append,ByteArray.size_extract,Nat.min_self,Nat.sub_zero,show (⟨#[106,114,32]⟩:ByteArray).size = 3 from rfl] at c10b1e))
   try have c10b2:(9223372036854775807 < ((⟨#[106,114,32]⟩:ByteArray) ++ (rdOf ByteArray.empty t135 (ji6))).size + 3) = False:=eq_false (Nat.not_lt.2 c10)
   (try (have c10b2e:=c10b2;simp only [ByteArray.size_append,ByteArray.size_extract,Nat.min_self,Nat.sub_zero,show (⟨#[106,114,32]⟩:ByteArray).size = 3 from rfl] at c10b2e))
   obtain rfl:=Option.some.inj H
   go_enter Tryz.func93,Tryz.ntmps93
   go_wp2_with (first | ((with_reducible refine gate_callee (f:=129) rfl ?_);refine goesL_ (some 17) rfl rfl Tryz.func129 (by kernel_rfl) rfl #[] rfl q71_ ?_;(with_reducible refine (impl_conds.calls  t135 _ A5.out).mono ?_);rintro e w11 ⟨v136,rfl,ho0,hb⟩;refine ⟨_,rfl,?_⟩;have n0_:=Aside0.mk (Kd.R_lower ho0 (below_size q72_));have n1_:=Aside0.mk (below_step q72_ hb);clear HB;have HO137:=n0_;have HB:=n1_;clear n0_ n1_;(try clear hb);(try clear ho0);obtain ⟨Ao12,co12,eo12⟩:=Kd.R_slice HO137.out;subst eo12;have p138:0 ≤ ((ji6):Int):=of_decide_eq_true q109_;have q138:(ji6) < (t135.length:Int):=of_decide_eq_true q109_;obtain ⟨ad138,e138,hx138_0⟩:=Kd.at_string (Kd.R_reads' HO137.out).2.2 (ji6) p138 q138;cases e138;replace p138:=eq_true p138;replace q138:=eq_true q138))
   go_ret
   exact ⟨q43_,q72_⟩
  rw [if_neg c4] at H
  have c4b0:decide (4 ≤ a0) = false:=decide_eq_false c4
  clear c4
  obtain ⟨y139,hy139⟩:∃ y_:List ByteArray,y_ = (([(⟨#[110,111,112]⟩:ByteArray),(⟨#[108,100,32,91,110,49,54,93,44,115,112]⟩:ByteArray),(⟨#[115,116,111,112,32,110,56]⟩:ByteArray),(⟨#[106,114,32,101,56]⟩:ByteArray)]:List ByteArray)):=⟨_,rfl⟩
  replace H:(if 0 ≤ a0 then (if a0 < (y139.length:Int) then (some (rdOf ByteArray.empty y139 a0)) else (none)) else (none)) = some r:=by first | (rw [hy139];exact H) | exact H
  have Ny139:=Aside0.mk hy139
  clear hy139
  by_cases c13:0 ≤ a0
  rotate_left
  ·rw [if_neg c13] at H
   exact absurd H (by simp)
  rw [if_pos c13] at H
  have c13b0:=decide_eq_true c13
  clear c13
  by_cases c14:a0 < (y139.length:Int)
  rotate_left
  ·rw [if_neg c14] at H
   exact absurd H (by simp)
  rw [if_pos c14] at H
  have c14b0:=decide_eq_true c14
  clear c14
  obtain rfl:=Option.some.inj H
  go_enter Tryz.func93,Tryz.ntmps93
  go_wp2_with (first | ((with_reducible refine gate_dst (N:=24) rfl ?_);refine Kd.R_lit Kd.string _ 9 ?hg (N:=24) ?hd (xs:=([(⟨#[110,111,112]⟩:ByteArray),(⟨#[108,100,32,91,110,49,54,93,44,115,112]⟩:ByteArray),(⟨#[115,116,111,112,32,110,56]⟩:ByteArray),(⟨#[106,114,32,101,56]⟩:ByteArray)]:List ByteArray)) (inner:=[.string (⟨#[110,111,112]⟩:ByteArray),.string (⟨#[108,100,32,91,110,49,54,93,44,115,112]⟩:ByteArray),.string (⟨#[115,116,111,112,32,110,56]⟩:ByteArray),.string (⟨#[106,114,32,101,56]⟩:ByteArray)]) (ok:=fun _ => True) (okp:=fun _ => True) ?hr ?hp (fun _ hk => hk) trivial (Below.refl _ _) (Nat.le_refl _) (by simp) ?_;(case hd => rfl);(case hg => rfl);(case hr => exact q139_);(case hp => exact q124_);intro v140 w15 ho16 hb hg_ hnew_;clear hg_ hnew_;(first | rw [← Ny139.out] at ho16 | (simp only [Int.reduceToNat] at ho16;rw [← Ny139.out] at ho16));have n0_:=Aside0.mk (Kd.R_lower ho16 (below_size q72_));have n1_:=Aside0.mk (below_step q72_ hb);clear HB;have HO141:=n0_;have HB:=n1_;clear n0_ n1_;clear hb ho16;obtain ⟨Ao17,co17,eo17⟩:=Kd.R_slice HO141.out;subst eo17;have p142:0 ≤ (a0:Int):=of_decide_eq_true q109_;have q142:a0 < (y139.length:Int):=of_decide_eq_true q109_;obtain ⟨ad142,e142,hx142_0⟩:=Kd.at_string (Kd.R_reads' HO141.out).2.2 a0 p142 q142;cases e142;replace p142:=eq_true p142;replace q142:=eq_true q142))
  go_ret
  exact ⟨q74_,q72_⟩
 rw [if_neg c3] at H
 have c3b0:(a1 == 0) = false:=beq_eq_false_iff_ne.mpr c3
 have c3b1:(a1 != 0) = true:=bne_iff_ne.mpr c3
 by_cases c18:a1 = 1
 ·rw [if_pos c18] at H
  have c18b0:(a1 == 1) = true:=beq_iff_eq.mpr c18
  have c18b1:(a1 != 1) = false:=bne_eq_false_iff_eq.mpr c18
  clear c18
  by_cases c19:(Int.tmod a0 2) = 0
  ·rw [if_pos c19] at H
   have c19b0:((Int.tmod a0 2) == 0) = true:=beq_iff_eq.mpr c19
   have c19b1:((Int.tmod a0 2) != 0) = false:=bne_eq_false_iff_eq.mpr c19
   clear c19
   replace H:=Option.bind_eq_some_iff.mp H
   obtain ⟨t143,A200,H⟩:=H
   have A20:=Aside0.mk A200
   clear A200
   obtain ⟨ji21,hji21⟩:∃ j_:Int,(wrap64 (Int.tdiv a0 2)) = j_:=⟨_,rfl⟩
   (first | rewrite [hji21] at H | simp only [hji21] at H)
   (try rw [hji21] at A20)
   have hji21w:(IntKind.i64.wrap (Int.tdiv a0 2)) = ji21:=(i64_w _).trans hji21
   by_cases c22:0 ≤ (ji21)
   rotate_left
   ·rw [if_neg c22] at H
    exact absurd H (by simp)
   rw [if_pos c22] at H
   have c22b0:=decide_eq_true c22
   clear c22
   by_cases c23:(ji21) < (t143.length:Int)
   rotate_left
   ·rw [if_neg c23] at H
    exact absurd H (by simp)
   rw [if_pos c23] at H
   have c23b0:=decide_eq_true c23
   clear c23
   by_cases c24:3 + (rdOf ByteArray.empty t143 (ji21)).size ≤ 9223372036854775807
   rotate_left
   ·rw [if_neg c24] at H
    exact absurd H (by simp)
   rw [if_pos c24] at H
   have c24b0:=eq_true c24
   have c24b1:=decide_eq_true c24
   try have c24b2:(9223372036854775807 < 3 + (rdOf ByteArray.empty t143 (ji21)).size) = False:=eq_false (Nat.not_lt.2 c24)
   by_cases c25:((⟨#[108,100,32]⟩:ByteArray) ++ (rdOf ByteArray.empty t143 (ji21))).size + 4 ≤ 9223372036854775807
   rotate_left
   ·rw [if_neg c25] at H
    exact absurd H (by simp)
   rw [if_pos c25] at H
   have c25b0:=eq_true c25
   (try (have c25b0e:=c25b0;simp only [ByteArray.size_append,ByteArray.size_extract,Nat.min_self,Nat.sub_zero,show (⟨#[108,100,32]⟩:ByteArray).size = 3 from rfl] at c25b0e))
   have c25b1:=decide_eq_true c25
   (try (have c25b1e:=c25b1;simp only [ByteArray.size_append,ByteArray.size_extract,Nat.min_self,Nat.sub_zero,show (⟨#[108,100,32]⟩:ByteArray).size = 3 from rfl] at c25b1e))
   try have c25b2:(9223372036854775807 < ((⟨#[108,100,32]⟩:ByteArray) ++ (rdOf ByteArray.empty t143 (ji21))).size + 4) = False:=eq_false (Nat.not_lt.2 c25)
   (try (have c25b2e:=c25b2;simp only [ByteArray.size_append,ByteArray.size_extract,Nat.min_self,Nat.sub_zero,show (⟨#[108,100,32]⟩:ByteArray).size = 3 from rfl] at c25b2e))
   obtain rfl:=Option.some.inj H
   go_enter Tryz.func93,Tryz.ntmps93
   go_wp2_with (first | ((with_reducible refine gate_callee (f:=130) rfl ?_);refine goesL_ (some 32) rfl rfl Tryz.func130 (by kernel_rfl) rfl #[] rfl q71_ ?_;(with_reducible refine (impl_pairs.calls  t143 _ A20.out).mono ?_);rintro e w26 ⟨v144,rfl,ho0,hb⟩;refine ⟨_,rfl,?_⟩;have n0_:=Aside0.mk (Kd.R_lower ho0 (below_size q72_));have n1_:=Aside0.mk (below_step q72_ hb);clear HB;have HO145:=n0_;have HB:=n1_;clear n0_ n1_;(try clear hb);(try clear ho0);obtain ⟨Ao27,co27,eo27⟩:=Kd.R_slice HO145.out;subst eo27;have p146:0 ≤ ((ji21):Int):=of_decide_eq_true q109_;have q146:(ji21) < (t143.length:Int):=of_decide_eq_true q109_;obtain ⟨ad146,e146,hx146_0⟩:=Kd.at_string (Kd.R_reads' HO145.out).2.2 (ji21) p146 q146;cases e146;replace p146:=eq_true p146;replace q146:=eq_true q146))
   go_ret
   exact ⟨q38_,q72_⟩
  rw [if_neg c19] at H
  have c19b0:((Int.tmod a0 2) == 0) = false:=beq_eq_false_iff_ne.mpr c19
  have c19b1:((Int.tmod a0 2) != 0) = true:=bne_iff_ne.mpr c19
  replace H:=Option.bind_eq_some_iff.mp H
  obtain ⟨t147,A280,H⟩:=H
  have A28:=Aside0.mk A280
  clear A280
  obtain ⟨ji29,hji29⟩:∃ j_:Int,(wrap64 (Int.tdiv a0 2)) = j_:=⟨_,rfl⟩
  (first | rewrite [hji29] at H | simp only [hji29] at H)
  (try rw [hji29] at A28)
  have hji29w:(IntKind.i64.wrap (Int.tdiv a0 2)) = ji29:=(i64_w _).trans hji29
  by_cases c30:0 ≤ (ji29)
  rotate_left
  ·rw [if_neg c30] at H
   exact absurd H (by simp)
  rw [if_pos c30] at H
  have c30b0:=decide_eq_true c30
  clear c30
  by_cases c31:(ji29) < (t147.length:Int)
  rotate_left
  ·rw [if_neg c31] at H
   exact absurd H (by simp)
  rw [if_pos c31] at H
  have c31b0:=decide_eq_true c31
  clear c31
  by_cases c32:7 + (rdOf ByteArray.empty t147 (ji29)).size ≤ 9223372036854775807
  rotate_left
  ·rw [if_neg c32] at H
   exact absurd H (by simp)
  rw [if_pos c32] at H
  have c32b0:=eq_true c32
  have c32b1:=decide_eq_true c32
  try have c32b2:(9223372036854775807 < 7 + (rdOf ByteArray.empty t147 (ji29)).size) = False:=eq_false (Nat.not_lt.2 c32)
  obtain rfl:=Option.some.inj H
  go_enter Tryz.func93,Tryz.ntmps93
  go_wp2_with (first | ((with_reducible refine gate_callee (f:=130) rfl ?_);refine goesL_ (some 38) rfl rfl Tryz.func130 (by kernel_rfl) rfl #[] rfl q71_ ?_;(with_reducible refine (impl_pairs.calls  t147 _ A28.out).mono ?_);rintro e w33 ⟨v148,rfl,ho0,hb⟩;refine ⟨_,rfl,?_⟩;have n0_:=Aside0.mk (Kd.R_lower ho0 (below_size q72_));have n1_:=Aside0.mk (below_step q72_ hb);clear HB;have HO149:=n0_;have HB:=n1_;clear n0_ n1_;(try clear hb);(try clear ho0);obtain ⟨Ao34,co34,eo34⟩:=Kd.R_slice HO149.out;subst eo34;have p150:0 ≤ ((ji29):Int):=of_decide_eq_true q109_;have q150:(ji29) < (t147.length:Int):=of_decide_eq_true q109_;obtain ⟨ad150,e150,hx150_0⟩:=Kd.at_string (Kd.R_reads' HO149.out).2.2 (ji29) p150 q150;cases e150;replace p150:=eq_true p150;replace q150:=eq_true q150))
  go_ret
  exact ⟨q39_,q72_⟩
 rw [if_neg c18] at H
 have c18b0:(a1 == 1) = false:=beq_eq_false_iff_ne.mpr c18
 have c18b1:(a1 != 1) = true:=bne_iff_ne.mpr c18
 by_cases c35:a1 = 2
 ·rw [if_pos c35] at H
  have c35b0:(a1 == 2) = true:=beq_iff_eq.mpr c35
  have c35b1:(a1 != 2) = false:=bne_eq_false_iff_eq.mpr c35
  clear c35
  replace H:=Option.bind_eq_some_iff.mp H
  obtain ⟨t151,A360,H⟩:=H
  have A36:=Aside0.mk A360
  clear A360
  obtain ⟨ji37,hji37⟩:∃ j_:Int,(wrap64 (Int.tdiv a0 2)) = j_:=⟨_,rfl⟩
  (first | rewrite [hji37] at H | simp only [hji37] at H)
  (try rw [hji37] at A36)
  have hji37w:(IntKind.i64.wrap (Int.tdiv a0 2)) = ji37:=(i64_w _).trans hji37
  by_cases c38:0 ≤ (ji37)
  rotate_left
  ·rw [if_neg c38] at H
   exact absurd H (by simp)
  rw [if_pos c38] at H
  have c38b0:=decide_eq_true c38
  clear c38
  by_cases c39:(ji37) < (t151.length:Int)
  rotate_left
  ·rw [if_neg c39] at H
   exact absurd H (by simp)
  rw [if_pos c39] at H
  have c39b0:=decide_eq_true c39
  clear c39
  by_cases c40:(Int.tmod a0 2) = 0
  ·rw [if_pos c40] at H
   have c40b0:((Int.tmod a0 2) == 0) = true:=beq_iff_eq.mpr c40
   have c40b1:((Int.tmod a0 2) != 0) = false:=bne_eq_false_iff_eq.mpr c40
   clear c40
   by_cases c41:3 + (rdOf ByteArray.empty t151 (ji37)).size ≤ 9223372036854775807
   rotate_left
   ·rw [if_neg c41] at H
    exact absurd H (by simp)
   rw [if_pos c41] at H
   have c41b0:=eq_true c41
   have c41b1:=decide_eq_true c41
   try have c41b2:(9223372036854775807 < 3 + (rdOf ByteArray.empty t151 (ji37)).size) = False:=eq_false (Nat.not_lt.2 c41)
   by_cases c42:((⟨#[108,100,32]⟩:ByteArray) ++ (rdOf ByteArray.empty t151 (ji37))).size + 2 ≤ 9223372036854775807
   rotate_left
   ·rw [if_neg c42] at H
    exact absurd H (by simp)
   rw [if_pos c42] at H
   have c42b0:=eq_true c42
   (try (have c42b0e:=c42b0;simp only [ByteArray.size_append,ByteArray.size_extract,Nat.min_self,Nat.sub_zero,show (⟨#[108,100,32]⟩:ByteArray).size = 3 from rfl] at c42b0e))
   have c42b1:=decide_eq_true c42
   (try (have c42b1e:=c42b1;simp only [ByteArray.size_append,ByteArray.size_extract,Nat.min_self,Nat.sub_zero,show (⟨#[108,100,32]⟩:ByteArray).size = 3 from rfl] at c42b1e))
   try have c42b2:(9223372036854775807 < ((⟨#[108,100,32]⟩:ByteArray) ++ (rdOf ByteArray.empty t151 (ji37))).size + 2) = False:=eq_false (Nat.not_lt.2 c42)
   (try (have c42b2e:=c42b2;simp only [ByteArray.size_append,ByteArray.size_extract,Nat.min_self,Nat.sub_zero,show (⟨#[108,100,32]⟩:ByteArray).size = 3 from rfl] at c42b2e))
   obtain rfl:=Option.some.inj H
   go_enter Tryz.func93,Tryz.ntmps93
   go_wp2_with (first | ((with_reducible refine gate_callee (f:=97) rfl ?_);refine goesL_ (some 45) rfl rfl Tryz.func97 (by kernel_rfl) rfl #[.string (⟨#[91,98,99,93,32,91,100,101,93,32,91,104,108,43,93,32,91,104,108,45,93]⟩:ByteArray)] rfl q71_ ?_;(with_reducible refine (impl_names.calls (⟨#[91,98,99,93,32,91,100,101,93,32,91,104,108,43,93,32,91,104,108,45,93]⟩:ByteArray) t151 _ A36.out).mono ?_);rintro e w43 ⟨v152,rfl,ho0,hb⟩;refine ⟨_,rfl,?_⟩;have n0_:=Aside0.mk (Kd.R_lower ho0 (below_size q72_));have n1_:=Aside0.mk (below_step q72_ hb);clear HB;have HO153:=n0_;have HB:=n1_;clear n0_ n1_;(try clear hb);(try clear ho0);obtain ⟨Ao44,co44,eo44⟩:=Kd.R_slice HO153.out;subst eo44;have p154:0 ≤ ((ji37):Int):=of_decide_eq_true q109_;have q154:(ji37) < (t151.length:Int):=of_decide_eq_true q109_;obtain ⟨ad154,e154,hx154_0⟩:=Kd.at_string (Kd.R_reads' HO153.out).2.2 (ji37) p154 q154;cases e154;replace p154:=eq_true p154;replace q154:=eq_true q154))
   go_ret
   exact ⟨q40_,q72_⟩
  rw [if_neg c40] at H
  have c40b0:((Int.tmod a0 2) == 0) = false:=beq_eq_false_iff_ne.mpr c40
  have c40b1:((Int.tmod a0 2) != 0) = true:=bne_iff_ne.mpr c40
  by_cases c45:5 + (rdOf ByteArray.empty t151 (ji37)).size ≤ 9223372036854775807
  rotate_left
  ·rw [if_neg c45] at H
   exact absurd H (by simp)
  rw [if_pos c45] at H
  have c45b0:=eq_true c45
  have c45b1:=decide_eq_true c45
  try have c45b2:(9223372036854775807 < 5 + (rdOf ByteArray.empty t151 (ji37)).size) = False:=eq_false (Nat.not_lt.2 c45)
  obtain rfl:=Option.some.inj H
  go_enter Tryz.func93,Tryz.ntmps93
  go_wp2_with (first | ((with_reducible refine gate_callee (f:=97) rfl ?_);refine goesL_ (some 45) rfl rfl Tryz.func97 (by kernel_rfl) rfl #[.string (⟨#[91,98,99,93,32,91,100,101,93,32,91,104,108,43,93,32,91,104,108,45,93]⟩:ByteArray)] rfl q71_ ?_;(with_reducible refine (impl_names.calls (⟨#[91,98,99,93,32,91,100,101,93,32,91,104,108,43,93,32,91,104,108,45,93]⟩:ByteArray) t151 _ A36.out).mono ?_);rintro e w46 ⟨v152,rfl,ho0,hb⟩;refine ⟨_,rfl,?_⟩;have n0_:=Aside0.mk (Kd.R_lower ho0 (below_size q72_));have n1_:=Aside0.mk (below_step q72_ hb);clear HB;have HO153:=n0_;have HB:=n1_;clear n0_ n1_;(try clear hb);(try clear ho0);obtain ⟨Ao47,co47,eo47⟩:=Kd.R_slice HO153.out;subst eo47;have p154:0 ≤ ((ji37):Int):=of_decide_eq_true q109_;have q154:(ji37) < (t151.length:Int):=of_decide_eq_true q109_;obtain ⟨ad154,e154,hx154_0⟩:=Kd.at_string (Kd.R_reads' HO153.out).2.2 (ji37) p154 q154;cases e154;replace p154:=eq_true p154;replace q154:=eq_true q154))
  go_ret
  exact ⟨q40_,q72_⟩
 rw [if_neg c35] at H
 have c35b0:(a1 == 2) = false:=beq_eq_false_iff_ne.mpr c35
 have c35b1:(a1 != 2) = true:=bne_iff_ne.mpr c35
 by_cases c48:a1 = 3
 ·rw [if_pos c48] at H
  have c48b0:(a1 == 3) = true:=beq_iff_eq.mpr c48
  have c48b1:(a1 != 3) = false:=bne_eq_false_iff_eq.mpr c48
  clear c48
  replace H:=Option.bind_eq_some_iff.mp H
  obtain ⟨t155,A490,H⟩:=H
  have A49:=Aside0.mk A490
  clear A490
  obtain ⟨ji50,hji50⟩:∃ j_:Int,(Int.tmod a0 2) = j_:=⟨_,rfl⟩
  (first | rewrite [hji50] at H | simp only [hji50] at H)
  (try rw [hji50] at A49)
  by_cases c51:0 ≤ (ji50)
  rotate_left
  ·rw [if_neg c51] at H
   exact absurd H (by simp)
  rw [if_pos c51] at H
  have c51b0:=decide_eq_true c51
  clear c51
  by_cases c52:(ji50) < (t155.length:Int)
  rotate_left
  ·rw [if_neg c52] at H
   exact absurd H (by simp)
  rw [if_pos c52] at H
  have c52b0:=decide_eq_true c52
  clear c52
  by_cases c53:(rdOf ByteArray.empty t155 (ji50)).size + 1 ≤ 9223372036854775807
  rotate_left
  ·rw [if_neg c53] at H
   exact absurd H (by simp)
  rw [if_pos c53] at H
  have c53b0:=eq_true c53
  have c53b1:=decide_eq_true c53
  try have c53b2:(9223372036854775807 < (rdOf ByteArray.empty t155 (ji50)).size + 1) = False:=eq_false (Nat.not_lt.2 c53)
  replace H:=Option.bind_eq_some_iff.mp H
  obtain ⟨t159,A540,H⟩:=H
  have A54:=Aside0.mk A540
  clear A540
  obtain ⟨ji55,hji55⟩:∃ j_:Int,(wrap64 (Int.tdiv a0 2)) = j_:=⟨_,rfl⟩
  (first | rewrite [hji55] at H | simp only [hji55] at H)
  (try rw [hji55] at A49)
  (try rw [hji55] at A54)
  have hji55w:(IntKind.i64.wrap (Int.tdiv a0 2)) = ji55:=(i64_w _).trans hji55
  by_cases c56:0 ≤ (ji55)
  rotate_left
  ·rw [if_neg c56] at H
   exact absurd H (by simp)
  rw [if_pos c56] at H
  have c56b0:=decide_eq_true c56
  clear c56
  by_cases c57:(ji55) < (t159.length:Int)
  rotate_left
  ·rw [if_neg c57] at H
   exact absurd H (by simp)
  rw [if_pos c57] at H
  have c57b0:=decide_eq_true c57
  clear c57
  by_cases c58:((rdOf ByteArray.empty t155 (ji50)) ++ (⟨#[32]⟩:ByteArray)).size + (rdOf ByteArray.empty t159 (ji55)).size ≤ 9223372036854775807
  rotate_left
  ·rw [if_neg c58] at H
   exact absurd H (by simp)
  rw [if_pos c58] at H
  have c58b0:=eq_true c58
  (try (have c58b0e:=c58b0;simp only [ByteArray.size_append,ByteArray.size_extract,Nat.min_self,Nat.sub_zero,show (⟨#[32]⟩:ByteArray).size = 1 from rfl] at c58b0e))
  have c58b1:=decide_eq_true c58
  (try (have c58b1e:=c58b1;simp only [ByteArray.size_append,ByteArray.size_extract,Nat.min_self,Nat.sub_zero,show (⟨#[32]⟩:ByteArray).size = 1 from rfl] at c58b1e))
  try have c58b2:(9223372036854775807 < ((rdOf ByteArray.empty t155 (ji50)) ++ (⟨#[32]⟩:ByteArray)).size + (rdOf ByteArray.empty t159 (ji55)).size) = False:=eq_false (Nat.not_lt.2 c58)
  (try (have c58b2e:=c58b2;simp only [ByteArray.size_append,ByteArray.size_extract,Nat.min_self,Nat.sub_zero,show (⟨#[32]⟩:ByteArray).size = 1 from rfl] at c58b2e))
  obtain rfl:=Option.some.inj H
  go_enter Tryz.func93,Tryz.ntmps93
  try go_wp2
  have pi158:(0 ≤ ((ji50):Int)) = True:=eq_true (of_decide_eq_true q109_)
  have qi158:((ji50) < (t155.length:Int)) = True:=eq_true (of_decide_eq_true q109_)
  have pi162:(0 ≤ ((ji55):Int)) = True:=eq_true (of_decide_eq_true q109_)
  have qi162:((ji55) < (t159.length:Int)) = True:=eq_true (of_decide_eq_true q109_)
  have n0_:=Aside0.mk (below_drew1 HB.out)
  clear HB
  have HB:=n0_
  clear n0_
  refine start_ (n:=11) (S:=fun w' => True) (ds:=[]) #[false,false,false,false,false,false,false,false,false,false,false] (by kernel_rfl) rfl rfl trivial (fun hHeld => ?_);refine with_tabW impl_low.tab17 impl_low.bits17 (fun HT_ HW_ => ?_)
  generalize w.drew = w59 at HB hHeld ⊢
  refine pure_ (i:=1) (N:=some 59) (v:=?_) (a':=?_) #[false,true,false,false,false,false,false,false,false,false,false] rfl rfl (any_of HT_.out (by kernel_rfl)) (fun _ _ _ h => h) (Or.inl ⟨by rfl,?_⟩) ?_ ?_
  rotate_left
  ·intro w'
   go_simp
   with_reducible rfl
  rotate_left
  ·simp only [Act.put,List.setIfInBounds_toArray,List.set_cons_zero,List.set_cons_succ,i64_w,i32_w]
   rfl
  refine pure_ (i:=6) (N:=some 64) (v:=?_) (a':=?_) #[false,true,false,false,false,false,true,false,false,false,false] rfl rfl (any_of HT_.out (by kernel_rfl)) (fun _ _ _ h => h) (Or.inl ⟨by rfl,?_⟩) ?_ ?_
  rotate_left
  ·intro w'
   go_simp
   with_reducible rfl
  rotate_left
  ·simp only [Act.put,List.setIfInBounds_toArray,List.set_cons_zero,List.set_cons_succ,i64_w,i32_w]
   rfl
  refine inv_at [0,2,3,4,5,7,8,9,10] (fun a0_ b a w' => ∃ (v156:Value) (adz_v156:Addr) (v160:Value) (adz_v160:Addr) (m2_:Value) (m7_:Value),a = putSel a0_ b [(0,58,v156),(2,60,m2_),(3,61,.string (rdOf ByteArray.empty t155 (ji50))),(4,62,.string ((rdOf ByteArray.empty t155 (ji50)) ++ (⟨#[32]⟩:ByteArray))),(5,63,v160),(7,65,m7_),(8,66,.string (rdOf ByteArray.empty t159 (ji55))),(9,67,.string (((rdOf ByteArray.empty t155 (ji50)) ++ (⟨#[32]⟩:ByteArray)) ++ (rdOf ByteArray.empty t159 (ji55)))),(10,4,.string (((rdOf ByteArray.empty t155 (ji50)) ++ (⟨#[32]⟩:ByteArray)) ++ (rdOf ByteArray.empty t159 (ji55))))] ∧ (Below w.heap.size w w') ∧ (b 0 = true → Kd.R Kd.string 9 w' w.heap.size (fun _ => True) v156 t155) ∧ (b 0 = true → ∃ c_,(v156:Value) = .slice (some adz_v156) t155.length c_) ∧ (b 5 = true → Kd.R Kd.string 9 w' w.heap.size (fun _ => True) v160 t159) ∧ (b 5 = true → ∃ c_,(v160:Value) = .slice (some adz_v160) t159.length c_) ∧ (b 2 = true → (m2_:Value) = .pointer (some (adz_v156.add ((ji50)).toNat))) ∧ (b 7 = true → (m7_:Value) = .pointer (some (adz_v160.add ((ji55)).toNat)))) HT_.out HW_.out (by kernel_rfl) (by kernel_rfl) ?_ ?_ ?_
  ·exact ⟨.bool false,⟨0,0,none⟩,.bool false,⟨0,0,none⟩,.bool false,.bool false,q110_,HB.out,fun h_ => absurd h_ (by decide),fun h_ => absurd h_ (by decide),fun h_ => absurd h_ (by decide),fun h_ => absurd h_ (by decide),fun h_ => absurd h_ (by decide),fun h_ => absurd h_ (by decide)⟩
  ·skip
   clear HB
   refine steps_cons ?_ ?_
   ·rintro b a w' ⟨v156,adz_v156,v160,adz_v160,m2_,m7_,ha,Q_HB,Q_HO157,Q_HA_HO157,Q_HO161,Q_HA_HO161,Q_X2_,Q_X7_⟩ hb_ hon hoff
    refine ⟨_,rfl,fun K hK => ?_⟩
    replace ha:=Aside0.mk ha
    have HB:=Aside0.mk Q_HB
    refine goes_ Tryz.func97 (by kernel_rfl) rfl #[.string (⟨#[105,110,99,32,100,101,99]⟩:ByteArray)] (by rfl) rfl rfl (by first | (simp only [List.map_toArray,List.map_cons,List.map_nil,Act.eval,Array.getD_eq_getD_getElem?,Option.getD_some];done) | (simp only [List.map_toArray,List.map_cons,List.map_nil,Act.eval,Array.getD_eq_getD_getElem?,Option.getD_some];rfl)) ?_
    with_reducible refine (impl_names.calls (⟨#[105,110,99,32,100,101,99]⟩:ByteArray) t155 _ A49.out).mono ?_
    rintro e w60 ⟨v156,rfl,ho0,hb⟩
    refine ⟨_,rfl,?_⟩
    have n0_:=Aside0.mk (Kd.R_lower ho0 (below_size q72_))
    have n1_:=Aside0.mk (below_step q72_ hb)
    clear HB
    have HO157:=n0_
    have HB:=n1_
    clear n0_ n1_
    (try clear hb)
    (try clear hb2)
    (try clear hk)
    (try clear hi)
    (try clear ho0)
    obtain ⟨Ao61,co61,eo61⟩:=Kd.R_slice HO157.out
    subst eo61
    obtain ⟨ado61,fo61,_⟩:=Kd.at_string (Kd.R_reads' HO157.out).2.2 0 (by decide) (by have h1_:=of_eq_true pi158;have h2_:=of_eq_true qi158;omega)
    cases fo61
    refine hK.out _ _ ⟨.slice (some ado61) t155.length co61,ado61,v160,adz_v160,m2_,m7_,q111_,q72_,fun _ => q96_,fun _ => ⟨_,rfl⟩,fun h0_ => absurd ((hoff 5 (by kernel_rfl)).symm.trans h0_) (by decide),fun h0_ => absurd ((hoff 5 (by kernel_rfl)).symm.trans h0_) (by decide),fun h0_ => absurd ((hoff 2 (by kernel_rfl)).symm.trans h0_) (by decide),fun h0_ => absurd ((hoff 7 (by kernel_rfl)).symm.trans h0_) (by decide)⟩
   refine steps_cons ?_ ?_
   ·rintro b a w' ⟨v156,adz_v156,v160,adz_v160,m2_,m7_,ha,Q_HB,Q_HO157,Q_HA_HO157,Q_HO161,Q_HA_HO161,Q_X2_,Q_X7_⟩ hb_ hon hoff
    refine ⟨_,rfl,fun K hK => ?_⟩
    have e58:a.tmps[58]? = some (v156):=by rw [ha];exact putSel_on (e:=(0,58,v156)) 0 rfl rfl (hon 0 (by kernel_rfl)) rfl
    have e59:a.tmps[59]? = some (.int .i64 ji50):=by rw [ha];exact (putSel_off rfl).trans rfl
    replace ha:=Aside0.mk ha
    have HB:=Aside0.mk Q_HB
    have HO157:=Aside0.mk (Q_HO157 (hon 0 (by kernel_rfl)))
    have HA_HO157:=Aside0.mk (Q_HA_HO157 (hon 0 (by kernel_rfl)))
    obtain ⟨c_,hv_⟩:=HA_HO157.out
    rw [hv_] at e58
    refine value_ (w1:=w') (v:=.pointer (some (adz_v156.add ((ji50)).toNat))) (by rfl) rfl ?_ ?_
    ·go_simp
     (try simp only [i64_w])
     try rfl
    refine hK.out _ _ ⟨v156,adz_v156,v160,adz_v160,(.pointer (some (adz_v156.add ((ji50)).toNat))),m7_,q112_,Q_HB,Q_HO157,Q_HA_HO157,Q_HO161,Q_HA_HO161,fun _ => rfl,Q_X7_⟩
   refine steps_cons ?_ ?_
   ·rintro b a w' ⟨v156,adz_v156,v160,adz_v160,m2_,m7_,ha,Q_HB,Q_HO157,Q_HA_HO157,Q_HO161,Q_HA_HO161,Q_X2_,Q_X7_⟩ hb_ hon hoff
    refine ⟨_,rfl,fun K hK => ?_⟩
    have e60:a.tmps[60]? = some (m2_):=by rw [ha];exact putSel_on (e:=(2,60,m2_)) 1 rfl rfl (hon 2 (by kernel_rfl)) rfl
    rw [Q_X2_ (hon 2 (by kernel_rfl))] at e60
    replace ha:=Aside0.mk ha
    have HB:=Aside0.mk Q_HB
    have HO157:=Aside0.mk (Q_HO157 (hon 0 (by kernel_rfl)))
    have HA_HO157:=Aside0.mk (Q_HA_HO157 (hon 0 (by kernel_rfl)))
    obtain ⟨c_,hv_⟩:=HA_HO157.out
    have hF_:=HO157.out
    rw [hv_] at hF_
    obtain ⟨ad_,ea_,hx_⟩:=Kd.at_string (Kd.R_reads' hF_).2.2 (ji50) (of_eq_true pi158) (of_eq_true qi158)
    cases ea_
    refine value_ (w1:=w') (v:=.string (rdOf ByteArray.empty t155 (ji50))) (by rfl) rfl ?_ ?_
    ·go_simp
     (try simp only [i64_w])
     try rfl
    refine hK.out _ _ ⟨v156,adz_v156,v160,adz_v160,m2_,m7_,q113_,Q_HB,Q_HO157,Q_HA_HO157,Q_HO161,Q_HA_HO161,Q_X2_,Q_X7_⟩
   refine steps_cons ?_ ?_
   ·rintro b a w' ⟨v156,adz_v156,v160,adz_v160,m2_,m7_,ha,Q_HB,Q_HO157,Q_HA_HO157,Q_HO161,Q_HA_HO161,Q_X2_,Q_X7_⟩ hb_ hon hoff
    refine ⟨_,rfl,fun K hK => ?_⟩
    have e61:a.tmps[61]? = some (.string (rdOf ByteArray.empty t155 (ji50))):=by rw [ha];exact putSel_on (e:=(3,61,.string (rdOf ByteArray.empty t155 (ji50)))) 2 rfl rfl (hon 3 (by kernel_rfl)) rfl
    replace ha:=Aside0.mk ha
    have HB:=Aside0.mk Q_HB
    have HO157:=Aside0.mk (Q_HO157 (hon 0 (by kernel_rfl)))
    have HA_HO157:=Aside0.mk (Q_HA_HO157 (hon 0 (by kernel_rfl)))
    refine value_ (w1:=w') (v:=.string ((rdOf ByteArray.empty t155 (ji50)) ++ (⟨#[32]⟩:ByteArray))) (by rfl) rfl ?_ ?_
    ·go_simp
     (try simp only [i64_w])
     try rfl
    refine hK.out _ _ ⟨v156,adz_v156,v160,adz_v160,m2_,m7_,q114_,Q_HB,Q_HO157,Q_HA_HO157,Q_HO161,Q_HA_HO161,Q_X2_,Q_X7_⟩
   refine steps_cons ?_ ?_
   ·rintro b a w' ⟨v156,adz_v156,v160,adz_v160,m2_,m7_,ha,Q_HB,Q_HO157,Q_HA_HO157,Q_HO161,Q_HA_HO161,Q_X2_,Q_X7_⟩ hb_ hon hoff
    refine ⟨_,rfl,fun K hK => ?_⟩
    replace ha:=Aside0.mk ha
    have HB:=Aside0.mk Q_HB
    have HO157:=Aside0.mk (Q_HO157 (hon 0 (by kernel_rfl)))
    have HA_HO157:=Aside0.mk (Q_HA_HO157 (hon 0 (by kernel_rfl)))
    obtain ⟨co63,eo63⟩:=HA_HO157.out
    clear HA_HO157
    subst eo63
    refine goes_ Tryz.func130 (by kernel_rfl) rfl #[] (by rfl) rfl rfl (by first | (simp only [List.map_toArray,List.map_cons,List.map_nil,Act.eval,Array.getD_eq_getD_getElem?,Option.getD_some];done) | (simp only [List.map_toArray,List.map_cons,List.map_nil,Act.eval,Array.getD_eq_getD_getElem?,Option.getD_some];rfl)) ?_
    with_reducible refine (impl_pairs.calls  t159 _ A54.out).mono ?_
    rintro e w64 ⟨v160,rfl,ho0,hb⟩
    refine ⟨_,rfl,?_⟩
    have n0_:=Aside0.mk (Kd.R_elder' q96_ (Kd.R_base ho0) hb)
    have n1_:=Aside0.mk (Kd.R_lower (Kd.R_new' ho0 (Kd.R_lt q96_)) (below_size q72_))
    have n2_:=Aside0.mk (below_step q72_ hb)
    clear HO157
    clear HB
    have HO157:=n0_
    have HO161:=n1_
    have HB:=n2_
    clear n0_ n1_ n2_
    (try clear hb)
    (try clear hb2)
    (try clear hk)
    (try clear hi)
    (try clear ho0)
    obtain ⟨Ao65,co65,eo65⟩:=Kd.R_slice HO161.out
    subst eo65
    obtain ⟨ado65,fo65,_⟩:=Kd.at_string (Kd.R_reads' HO161.out).2.2 0 (by decide) (by have h1_:=of_eq_true pi162;have h2_:=of_eq_true qi162;omega)
    cases fo65
    refine hK.out _ _ ⟨.slice (some adz_v156) t155.length co63,adz_v156,.slice (some ado65) t159.length co65,ado65,m2_,m7_,q115_,q72_,fun _ => (by (with_reducible repeat (first | apply Kd.R_alloc | apply Kd.R_drewN | apply Kd.R_drew));exact Kd.R_mono HO157.out (fun _ hk => by first | exact hk.2 | trivial)),fun _ => ⟨_,rfl⟩,fun _ => (by (with_reducible repeat (first | apply Kd.R_alloc | apply Kd.R_drewN | apply Kd.R_drew));exact Kd.R_mono HO161.out (fun _ hk => by first | exact hk.2 | trivial)),fun _ => ⟨_,rfl⟩,Q_X2_,fun h0_ => absurd ((hoff 7 (by kernel_rfl)).symm.trans h0_) (by decide)⟩
   refine steps_cons ?_ ?_
   ·rintro b a w' ⟨v156,adz_v156,v160,adz_v160,m2_,m7_,ha,Q_HB,Q_HO157,Q_HA_HO157,Q_HO161,Q_HA_HO161,Q_X2_,Q_X7_⟩ hb_ hon hoff
    refine ⟨_,rfl,fun K hK => ?_⟩
    have e63:a.tmps[63]? = some (v160):=by rw [ha];exact putSel_on (e:=(5,63,v160)) 4 rfl rfl (hon 5 (by kernel_rfl)) rfl
    have e64:a.tmps[64]? = some (.int .i64 ji55):=by rw [ha];exact (putSel_off rfl).trans rfl
    replace ha:=Aside0.mk ha
    have HB:=Aside0.mk Q_HB
    have HO157:=Aside0.mk (Q_HO157 (hon 0 (by kernel_rfl)))
    have HA_HO157:=Aside0.mk (Q_HA_HO157 (hon 0 (by kernel_rfl)))
    have HO161:=Aside0.mk (Q_HO161 (hon 5 (by kernel_rfl)))
    have HA_HO161:=Aside0.mk (Q_HA_HO161 (hon 5 (by kernel_rfl)))
    obtain ⟨c_,hv_⟩:=HA_HO161.out
    rw [hv_] at e63
    refine value_ (w1:=w') (v:=.pointer (some (adz_v160.add ((ji55)).toNat))) (by rfl) rfl ?_ ?_
    ·go_simp
     (try simp only [i64_w])
     try rfl
    refine hK.out _ _ ⟨v156,adz_v156,v160,adz_v160,m2_,(.pointer (some (adz_v160.add ((ji55)).toNat))),q116_,Q_HB,Q_HO157,Q_HA_HO157,Q_HO161,Q_HA_HO161,Q_X2_,fun _ => rfl⟩
   refine steps_cons ?_ ?_
   ·rintro b a w' ⟨v156,adz_v156,v160,adz_v160,m2_,m7_,ha,Q_HB,Q_HO157,Q_HA_HO157,Q_HO161,Q_HA_HO161,Q_X2_,Q_X7_⟩ hb_ hon hoff
    refine ⟨_,rfl,fun K hK => ?_⟩
    have e65:a.tmps[65]? = some (m7_):=by rw [ha];exact putSel_on (e:=(7,65,m7_)) 5 rfl rfl (hon 7 (by kernel_rfl)) rfl
    rw [Q_X7_ (hon 7 (by kernel_rfl))] at e65
    replace ha:=Aside0.mk ha
    have HB:=Aside0.mk Q_HB
    have HO157:=Aside0.mk (Q_HO157 (hon 0 (by kernel_rfl)))
    have HA_HO157:=Aside0.mk (Q_HA_HO157 (hon 0 (by kernel_rfl)))
    have HO161:=Aside0.mk (Q_HO161 (hon 5 (by kernel_rfl)))
    have HA_HO161:=Aside0.mk (Q_HA_HO161 (hon 5 (by kernel_rfl)))
    obtain ⟨c_,hv_⟩:=HA_HO161.out
    have hF_:=HO161.out
    rw [hv_] at hF_
    obtain ⟨ad_,ea_,hx_⟩:=Kd.at_string (Kd.R_reads' hF_).2.2 (ji55) (of_eq_true pi162) (of_eq_true qi162)
    cases ea_
    refine value_ (w1:=w') (v:=.string (rdOf ByteArray.empty t159 (ji55))) (by rfl) rfl ?_ ?_
    ·go_simp
     (try simp only [i64_w])
     try rfl
    refine hK.out _ _ ⟨v156,adz_v156,v160,adz_v160,m2_,m7_,q117_,Q_HB,Q_HO157,Q_HA_HO157,Q_HO161,Q_HA_HO161,Q_X2_,Q_X7_⟩
   refine steps_cons ?_ ?_
   ·rintro b a w' ⟨v156,adz_v156,v160,adz_v160,m2_,m7_,ha,Q_HB,Q_HO157,Q_HA_HO157,Q_HO161,Q_HA_HO161,Q_X2_,Q_X7_⟩ hb_ hon hoff
    refine ⟨_,rfl,fun K hK => ?_⟩
    have e62:a.tmps[62]? = some (.string ((rdOf ByteArray.empty t155 (ji50)) ++ (⟨#[32]⟩:ByteArray))):=by rw [ha];exact putSel_on (e:=(4,62,.string ((rdOf ByteArray.empty t155 (ji50)) ++ (⟨#[32]⟩:ByteArray)))) 3 rfl rfl (hon 4 (by kernel_rfl)) rfl
    have e66:a.tmps[66]? = some (.string (rdOf ByteArray.empty t159 (ji55))):=by rw [ha];exact putSel_on (e:=(8,66,.string (rdOf ByteArray.empty t159 (ji55)))) 6 rfl rfl (hon 8 (by kernel_rfl)) rfl
    replace ha:=Aside0.mk ha
    have HB:=Aside0.mk Q_HB
    have HO157:=Aside0.mk (Q_HO157 (hon 0 (by kernel_rfl)))
    have HA_HO157:=Aside0.mk (Q_HA_HO157 (hon 0 (by kernel_rfl)))
    have HO161:=Aside0.mk (Q_HO161 (hon 5 (by kernel_rfl)))
    have HA_HO161:=Aside0.mk (Q_HA_HO161 (hon 5 (by kernel_rfl)))
    refine value_ (w1:=w') (v:=.string (((rdOf ByteArray.empty t155 (ji50)) ++ (⟨#[32]⟩:ByteArray)) ++ (rdOf ByteArray.empty t159 (ji55)))) (by rfl) rfl ?_ ?_
    ·go_simp
     (try simp only [i64_w])
     try rfl
    refine hK.out _ _ ⟨v156,adz_v156,v160,adz_v160,m2_,m7_,q118_,Q_HB,Q_HO157,Q_HA_HO157,Q_HO161,Q_HA_HO161,Q_X2_,Q_X7_⟩
   refine steps_cons ?_ ?_
   ·rintro b a w' ⟨v156,adz_v156,v160,adz_v160,m2_,m7_,ha,Q_HB,Q_HO157,Q_HA_HO157,Q_HO161,Q_HA_HO161,Q_X2_,Q_X7_⟩ hb_ hon hoff
    refine ⟨_,rfl,fun K hK => ?_⟩
    have e67:a.tmps[67]? = some (.string (((rdOf ByteArray.empty t155 (ji50)) ++ (⟨#[32]⟩:ByteArray)) ++ (rdOf ByteArray.empty t159 (ji55)))):=by rw [ha];exact putSel_on (e:=(9,67,.string (((rdOf ByteArray.empty t155 (ji50)) ++ (⟨#[32]⟩:ByteArray)) ++ (rdOf ByteArray.empty t159 (ji55))))) 7 rfl rfl (hon 9 (by kernel_rfl)) rfl
    replace ha:=Aside0.mk ha
    have HB:=Aside0.mk Q_HB
    have HO157:=Aside0.mk (Q_HO157 (hon 0 (by kernel_rfl)))
    have HA_HO157:=Aside0.mk (Q_HA_HO157 (hon 0 (by kernel_rfl)))
    have HO161:=Aside0.mk (Q_HO161 (hon 5 (by kernel_rfl)))
    have HA_HO161:=Aside0.mk (Q_HA_HO161 (hon 5 (by kernel_rfl)))
    refine value_ (w1:=w') (v:=.string (((rdOf ByteArray.empty t155 (ji50)) ++ (⟨#[32]⟩:ByteArray)) ++ (rdOf ByteArray.empty t159 (ji55)))) (by rfl) rfl ?_ ?_
    ·go_simp
     (try simp only [i64_w])
     try rfl
    refine hK.out _ _ ⟨v156,adz_v156,v160,adz_v160,m2_,m7_,q119_,Q_HB,Q_HO157,Q_HA_HO157,Q_HO161,Q_HA_HO161,Q_X2_,Q_X7_⟩
   exact steps_nil
  rintro b a w64 hall ⟨v156,adz_v156,v160,adz_v160,m2_,m7_,ha,Q_HB,Q_HO157,Q_HA_HO157,Q_HO161,Q_HA_HO161,Q_X2_,Q_X7_⟩
  clear HB
  have hb0_:=hall 0 (by kernel_rfl)
  have hb2_:=hall 2 (by kernel_rfl)
  have hb3_:=hall 3 (by kernel_rfl)
  have hb4_:=hall 4 (by kernel_rfl)
  have hb5_:=hall 5 (by kernel_rfl)
  have hb7_:=hall 7 (by kernel_rfl)
  have hb8_:=hall 8 (by kernel_rfl)
  have hb9_:=hall 9 (by kernel_rfl)
  have hb10_:=hall 10 (by kernel_rfl)
  subst ha
  obtain rfl:=Q_X2_ hb2_
  obtain rfl:=Q_X7_ hb7_
  simp only [putSel,hb0_,hb2_,hb3_,hb4_,hb5_,hb7_,hb8_,hb9_,hb10_,if_true,Act.put,List.setIfInBounds_toArray,List.set_cons_zero,List.set_cons_succ]
  have HB:=Aside0.mk Q_HB
  clear Q_HB
  have HO157:=Aside0.mk (Q_HO157 hb0_)
  clear Q_HO157
  have HA_HO157:=Aside0.mk (Q_HA_HO157 hb0_)
  clear Q_HA_HO157
  have HO161:=Aside0.mk (Q_HO161 hb5_)
  clear Q_HO161
  have HA_HO161:=Aside0.mk (Q_HA_HO161 hb5_)
  clear Q_HA_HO161
  clear hall hb0_ hb2_ hb3_ hb4_ hb5_ hb7_ hb8_ hb9_ hb10_
  obtain ⟨co65,eo65⟩:=HA_HO157.out
  clear HA_HO157
  subst eo65
  obtain ⟨co66,eo66⟩:=HA_HO161.out
  clear HA_HO161
  subst eo66
  try go_wp2
  go_ret
  exact ⟨by first | rfl | (simp [errW_none,errW_some] <;> rfl) | (simp only [← hji50,← hji55];first | rfl | (simp [errW_none,errW_some] <;> rfl)) | (simp [*,errW_none,errW_some] <;> rfl) | (exfalso;simp_all;done),q72_⟩
 rw [if_neg c48] at H
 have c48b0:(a1 == 3) = false:=beq_eq_false_iff_ne.mpr c48
 have c48b1:(a1 != 3) = true:=bne_iff_ne.mpr c48
 have HC67:=Aside0.mk H
 clear H
 go_enter Tryz.func93,Tryz.ntmps93
 go_upto_if 68 with (fail)
 go_cut [68] (fun v68 wc => ∃ (kq:Nat) (x68_66:Bool),v68 = .bool x68_66 ∧ Aside0 (impl_low.j0 kq a0 a1 a1 x68_66 = some r) ∧ Aside0 (kq ≤ k) ∧ Aside0 (Below w.heap.size w wc))
 case first =>
  have H:=HC67.out
  clear HC67
  by_cases c68:a1 = 4
  ·rw [if_pos c68] at H
   have c68b0:(a1 == 4) = true:=beq_iff_eq.mpr c68
   have c68b1:(a1 != 4) = false:=bne_eq_false_iff_eq.mpr c68
   clear c68
   (first | rw [c68b0] | (simp only [i64_w,i32_w];rw [c68b0]) | rw [c68b9] | skip)
   have H':=Aside0.mk H
   clear H
   go_wp2
   go_meet
   case rel => exact ⟨_,((a1 == 4)),q92_,H',⟨q121_⟩,⟨q72_⟩⟩
  rw [if_neg c68] at H
  have c68b0:(a1 == 4) = false:=beq_eq_false_iff_ne.mpr c68
  have c68b1:(a1 != 4) = true:=bne_iff_ne.mpr c68
  (first | rw [c68b0] | (simp only [i64_w,i32_w];rw [c68b0]) | rw [c68b9] | skip)
  have H':=Aside0.mk H
  clear H
  go_wp2
  go_meet
  case rel => exact ⟨_,((a1 == 5)),q92_,H',⟨q121_⟩,⟨q72_⟩⟩
 clear HC67
 try clear c1
 try clear p1
 try clear q1
 try clear hx1
 try clear qi1
 try clear c2
 try clear p2
 try clear c3
 try clear c3b0
 try clear c3b1
 try clear c4
 try clear c4b0
 try clear c5
 try clear c6
 try clear p6
 try clear c7
 try clear c7b0
 try clear c8
 try clear c8b0
 try clear c9
 try clear c9b0
 try clear c9b1
 try clear c9b2
 try clear c10
 try clear c10b0
 try clear c10b1
 try clear c10b2
 try clear c12
 try clear c13
 try clear c13b0
 try clear p13
 try clear q13
 try clear hx13
 try clear c14
 try clear c14b0
 try clear p14
 try clear q14
 try clear hx14
 try clear p15
 try clear q15
 try clear hx15
 try clear qi15
 try clear qi16
 try clear c18
 try clear c18b0
 try clear c18b1
 try clear c19
 try clear c19b0
 try clear c19b1
 try clear c22
 try clear c22b0
 try clear c23
 try clear c23b0
 try clear c24
 try clear c24b0
 try clear c24b1
 try clear c24b2
 try clear c25
 try clear c25b0
 try clear c25b1
 try clear c25b2
 try clear c30
 try clear c30b0
 try clear c31
 try clear c31b0
 try clear c32
 try clear c32b0
 try clear c32b1
 try clear c32b2
 try clear c35
 try clear c35b0
 try clear c35b1
 try clear c38
 try clear c38b0
 try clear c39
 try clear c39b0
 try clear c40
 try clear c40b0
 try clear c40b1
 try clear c41
 try clear c41b0
 try clear c41b1
 try clear c41b2
 try clear c42
 try clear c42b0
 try clear c42b1
 try clear c42b2
 try clear c45
 try clear c45b0
 try clear c45b1
 try clear c45b2
 try clear c48
 try clear c48b0
 try clear c48b1
 try clear c51
 try clear c51b0
 try clear c52
 try clear c52b0
 try clear c53
 try clear c53b0
 try clear c53b1
 try clear c53b2
 try clear c56
 try clear c56b0
 try clear c57
 try clear c57b0
 try clear c58
 try clear c58b0
 try clear c58b1
 try clear c58b2
 try clear p64
 try clear c68
 try clear c68b0
 try clear c68b1
 try clear hx138_0
 try clear hx142_0
 try clear hx146_0
 try clear hx150_0
 try clear hx154_0
 try clear p138
 try clear p142
 try clear p146
 try clear p150
 try clear p154
 try clear q138
 try clear q142
 try clear q146
 try clear q150
 try clear q154
 obtain ⟨kq,x68_66,rfl,HA,HJ66,HB⟩:=hcut
 cases kq with
 | zero => exact absurd HA.out (by simp [impl_low.j0])
 | succ kj66 =>
  have H:=HA.out
  clear HA
  simp only [impl_low.j0] at H
  by_cases c69:x68_66 = true
  ·subst c69
   rewrite [if_pos rfl] at H
   replace H:=Option.bind_eq_some_iff.mp H
   obtain ⟨t163,A700,H⟩:=H
   have A70:=Aside0.mk A700
   clear A700
   obtain ⟨ji71,hji71⟩:∃ j_:Int,(wrap64 (a1 - 4)) = j_:=⟨_,rfl⟩
   (first | rewrite [hji71] at H | simp only [hji71] at H)
   (try rw [hji71] at A70)
   have hji71w:(IntKind.i64.wrap (a1 - 4)) = ji71:=(i64_w _).trans hji71
   by_cases c72:0 ≤ (ji71)
   rotate_left
   ·rw [if_neg c72] at H
    exact absurd H (by simp)
   rw [if_pos c72] at H
   have c72b0:=decide_eq_true c72
   clear c72
   by_cases c73:(ji71) < (t163.length:Int)
   rotate_left
   ·rw [if_neg c73] at H
    exact absurd H (by simp)
   rw [if_pos c73] at H
   have c73b0:=decide_eq_true c73
   clear c73
   by_cases c74:(rdOf ByteArray.empty t163 (ji71)).size + 1 ≤ 9223372036854775807
   rotate_left
   ·rw [if_neg c74] at H
    exact absurd H (by simp)
   rw [if_pos c74] at H
   have c74b0:=eq_true c74
   have c74b1:=decide_eq_true c74
   try have c74b2:(9223372036854775807 < (rdOf ByteArray.empty t163 (ji71)).size + 1) = False:=eq_false (Nat.not_lt.2 c74)
   replace H:=Option.bind_eq_some_iff.mp H
   obtain ⟨t167,A750,H⟩:=H
   have A75:=Aside0.mk A750
   clear A750
   by_cases c76:0 ≤ a0
   rotate_left
   ·rw [if_neg c76] at H
    exact absurd H (by simp)
   rw [if_pos c76] at H
   have c76b0:=decide_eq_true c76
   clear c76
   by_cases c77:a0 < (t167.length:Int)
   rotate_left
   ·rw [if_neg c77] at H
    exact absurd H (by simp)
   rw [if_pos c77] at H
   have c77b0:=decide_eq_true c77
   clear c77
   by_cases c78:((rdOf ByteArray.empty t163 (ji71)) ++ (⟨#[32]⟩:ByteArray)).size + (rdOf ByteArray.empty t167 a0).size ≤ 9223372036854775807
   rotate_left
   ·rw [if_neg c78] at H
    exact absurd H (by simp)
   rw [if_pos c78] at H
   have c78b0:=eq_true c78
   (try (have c78b0e:=c78b0;simp only [ByteArray.size_append,ByteArray.size_extract,Nat.min_self,Nat.sub_zero,show (⟨#[32]⟩:ByteArray).size = 1 from rfl] at c78b0e))
   have c78b1:=decide_eq_true c78
   (try (have c78b1e:=c78b1;simp only [ByteArray.size_append,ByteArray.size_extract,Nat.min_self,Nat.sub_zero,show (⟨#[32]⟩:ByteArray).size = 1 from rfl] at c78b1e))
   try have c78b2:(9223372036854775807 < ((rdOf ByteArray.empty t163 (ji71)) ++ (⟨#[32]⟩:ByteArray)).size + (rdOf ByteArray.empty t167 a0).size) = False:=eq_false (Nat.not_lt.2 c78)
   (try (have c78b2e:=c78b2;simp only [ByteArray.size_append,ByteArray.size_extract,Nat.min_self,Nat.sub_zero,show (⟨#[32]⟩:ByteArray).size = 1 from rfl] at c78b2e))
   obtain rfl:=Option.some.inj H
   try go_wp2
   have pi166:(0 ≤ ((ji71):Int)) = True:=eq_true (of_decide_eq_true q109_)
   have qi166:((ji71) < (t163.length:Int)) = True:=eq_true (of_decide_eq_true q109_)
   have pi170:(0 ≤ (a0:Int)) = True:=eq_true (of_decide_eq_true q109_)
   have qi170:(a0 < (t167.length:Int)) = True:=eq_true (of_decide_eq_true q109_)
   have n0_:=Aside0.mk (below_drew1 HB.out)
   clear HB
   have HB:=n0_
   clear n0_
   refine start_ (n:=12) (S:=fun w' => True) (ds:=[]) #[false,false,false,false,false,false,false,false,false,false,false,false] (by kernel_rfl) rfl rfl trivial (fun hHeld => ?_);refine with_tabW impl_low.tab20 impl_low.bits20 (fun HT_ HW_ => ?_)
   generalize wc.drew = w79 at HB hHeld ⊢
   refine pure_ (i:=1) (N:=some 72) (v:=?_) (a':=?_) #[false,true,false,false,false,false,false,false,false,false,false,false] rfl rfl (any_of HT_.out (by kernel_rfl)) (fun _ _ _ h => h) (Or.inl ⟨by rfl,?_⟩) ?_ ?_
   rotate_left
   ·intro w'
    go_simp
    with_reducible rfl
   rotate_left
   ·simp only [Act.put,List.setIfInBounds_toArray,List.set_cons_zero,List.set_cons_succ,i64_w,i32_w]
    rfl
   refine pure_ (i:=7) (N:=some 78) (v:=?_) (a':=?_) #[false,true,false,false,false,false,false,true,false,false,false,false] rfl rfl (any_of HT_.out (by kernel_rfl)) (fun _ _ _ h => h) (Or.inl ⟨by rfl,?_⟩) ?_ ?_
   rotate_left
   ·intro w'
    go_simp
    with_reducible rfl
   rotate_left
   ·simp only [Act.put,List.setIfInBounds_toArray,List.set_cons_zero,List.set_cons_succ,i64_w,i32_w]
    rfl
   refine inv_at [0,2,3,4,5,6,8,9,10,11] (fun a0_ b a w' => ∃ (v164:Value) (adz_v164:Addr) (v168:Value) (adz_v168:Addr) (m3_:Value) (m8_:Value),a = putSel a0_ b [(0,71,v164),(2,73,.int .i64 ji71),(3,74,m3_),(4,75,.string (rdOf ByteArray.empty t163 (ji71))),(5,76,.string ((rdOf ByteArray.empty t163 (ji71)) ++ (⟨#[32]⟩:ByteArray))),(6,77,v168),(8,79,m8_),(9,80,.string (rdOf ByteArray.empty t167 a0)),(10,81,.string (((rdOf ByteArray.empty t163 (ji71)) ++ (⟨#[32]⟩:ByteArray)) ++ (rdOf ByteArray.empty t167 a0))),(11,4,.string (((rdOf ByteArray.empty t163 (ji71)) ++ (⟨#[32]⟩:ByteArray)) ++ (rdOf ByteArray.empty t167 a0)))] ∧ (Below w.heap.size w w') ∧ (b 0 = true → Kd.R Kd.string 9 w' w.heap.size (fun _ => True) v164 t163) ∧ (b 0 = true → ∃ c_,(v164:Value) = .slice (some adz_v164) t163.length c_) ∧ (b 6 = true → Kd.R Kd.string 9 w' w.heap.size (fun _ => True) v168 t167) ∧ (b 6 = true → ∃ c_,(v168:Value) = .slice (some adz_v168) t167.length c_) ∧ (b 3 = true → (m3_:Value) = .pointer (some (adz_v164.add ((ji71)).toNat))) ∧ (b 8 = true → (m8_:Value) = .pointer (some (adz_v168.add (a0).toNat)))) HT_.out HW_.out (by kernel_rfl) (by kernel_rfl) ?_ ?_ ?_
   ·exact ⟨.bool false,⟨0,0,none⟩,.bool false,⟨0,0,none⟩,.bool false,.bool false,q110_,HB.out,fun h_ => absurd h_ (by decide),fun h_ => absurd h_ (by decide),fun h_ => absurd h_ (by decide),fun h_ => absurd h_ (by decide),fun h_ => absurd h_ (by decide),fun h_ => absurd h_ (by decide)⟩
   ·skip
    clear HB
    refine steps_cons ?_ ?_
    ·rintro b a w' ⟨v164,adz_v164,v168,adz_v168,m3_,m8_,ha,Q_HB,Q_HO165,Q_HA_HO165,Q_HO169,Q_HA_HO169,Q_X3_,Q_X8_⟩ hb_ hon hoff
     refine ⟨_,rfl,fun K hK => ?_⟩
     replace ha:=Aside0.mk ha
     have HB:=Aside0.mk Q_HB
     refine goes_ Tryz.func97 (by kernel_rfl) rfl #[.string (⟨#[105,110,99,32,100,101,99]⟩:ByteArray)] (by rfl) rfl rfl (by first | (simp only [List.map_toArray,List.map_cons,List.map_nil,Act.eval,Array.getD_eq_getD_getElem?,Option.getD_some];done) | (simp only [List.map_toArray,List.map_cons,List.map_nil,Act.eval,Array.getD_eq_getD_getElem?,Option.getD_some];rfl)) ?_
     with_reducible refine (impl_names.calls (⟨#[105,110,99,32,100,101,99]⟩:ByteArray) t163 _ A70.out).mono ?_
     rintro e w80 ⟨v164,rfl,ho0,hb⟩
     refine ⟨_,rfl,?_⟩
     have n0_:=Aside0.mk (Kd.R_lower ho0 (below_size q72_))
     have n1_:=Aside0.mk (below_step q72_ hb)
     clear HB
     have HO165:=n0_
     have HB:=n1_
     clear n0_ n1_
     (try clear hb)
     (try clear hb2)
     (try clear hk)
     (try clear hi)
     (try clear ho0)
     obtain ⟨Ao81,co81,eo81⟩:=Kd.R_slice HO165.out
     subst eo81
     obtain ⟨ado81,fo81,_⟩:=Kd.at_string (Kd.R_reads' HO165.out).2.2 0 (by decide) (by have h1_:=of_eq_true pi166;have h2_:=of_eq_true qi166;omega)
     cases fo81
     refine hK.out _ _ ⟨.slice (some ado81) t163.length co81,ado81,v168,adz_v168,m3_,m8_,q111_,q72_,fun _ => q97_,fun _ => ⟨_,rfl⟩,fun h0_ => absurd ((hoff 6 (by kernel_rfl)).symm.trans h0_) (by decide),fun h0_ => absurd ((hoff 6 (by kernel_rfl)).symm.trans h0_) (by decide),fun h0_ => absurd ((hoff 3 (by kernel_rfl)).symm.trans h0_) (by decide),fun h0_ => absurd ((hoff 8 (by kernel_rfl)).symm.trans h0_) (by decide)⟩
    refine steps_cons ?_ ?_
    ·rintro b a w' ⟨v164,adz_v164,v168,adz_v168,m3_,m8_,ha,Q_HB,Q_HO165,Q_HA_HO165,Q_HO169,Q_HA_HO169,Q_X3_,Q_X8_⟩ hb_ hon hoff
     refine ⟨_,rfl,fun K hK => ?_⟩
     have e72:a.tmps[72]? = some (.int .i64 a1):=by rw [ha];exact (putSel_off rfl).trans rfl
     replace ha:=Aside0.mk ha
     have HB:=Aside0.mk Q_HB
     refine value_ (w1:=w') (v:=.int .i64 ji71) (by rfl) rfl ?_ ?_
     ·go_simp
      (try simp only [i64_w])
      try rfl
     refine hK.out _ _ ⟨v164,adz_v164,v168,adz_v168,m3_,m8_,q112_,Q_HB,Q_HO165,Q_HA_HO165,Q_HO169,Q_HA_HO169,fun h0_ => absurd ((hoff 3 (by kernel_rfl)).symm.trans h0_) (by decide),Q_X8_⟩
    refine steps_cons ?_ ?_
    ·rintro b a w' ⟨v164,adz_v164,v168,adz_v168,m3_,m8_,ha,Q_HB,Q_HO165,Q_HA_HO165,Q_HO169,Q_HA_HO169,Q_X3_,Q_X8_⟩ hb_ hon hoff
     refine ⟨_,rfl,fun K hK => ?_⟩
     have e71:a.tmps[71]? = some (v164):=by rw [ha];exact putSel_on (e:=(0,71,v164)) 0 rfl rfl (hon 0 (by kernel_rfl)) rfl
     have e73:a.tmps[73]? = some (.int .i64 ji71):=by rw [ha];exact putSel_on (e:=(2,73,.int .i64 ji71)) 1 rfl rfl (hon 2 (by kernel_rfl)) rfl
     replace ha:=Aside0.mk ha
     have HB:=Aside0.mk Q_HB
     have HO165:=Aside0.mk (Q_HO165 (hon 0 (by kernel_rfl)))
     have HA_HO165:=Aside0.mk (Q_HA_HO165 (hon 0 (by kernel_rfl)))
     obtain ⟨c_,hv_⟩:=HA_HO165.out
     rw [hv_] at e71
     refine value_ (w1:=w') (v:=.pointer (some (adz_v164.add ((ji71)).toNat))) (by rfl) rfl ?_ ?_
     ·go_simp
      (try simp only [i64_w])
      try rfl
     refine hK.out _ _ ⟨v164,adz_v164,v168,adz_v168,(.pointer (some (adz_v164.add ((ji71)).toNat))),m8_,q113_,Q_HB,Q_HO165,Q_HA_HO165,Q_HO169,Q_HA_HO169,fun _ => rfl,Q_X8_⟩
    refine steps_cons ?_ ?_
    ·rintro b a w' ⟨v164,adz_v164,v168,adz_v168,m3_,m8_,ha,Q_HB,Q_HO165,Q_HA_HO165,Q_HO169,Q_HA_HO169,Q_X3_,Q_X8_⟩ hb_ hon hoff
     refine ⟨_,rfl,fun K hK => ?_⟩
     have e74:a.tmps[74]? = some (m3_):=by rw [ha];exact putSel_on (e:=(3,74,m3_)) 2 rfl rfl (hon 3 (by kernel_rfl)) rfl
     rw [Q_X3_ (hon 3 (by kernel_rfl))] at e74
     replace ha:=Aside0.mk ha
     have HB:=Aside0.mk Q_HB
     have HO165:=Aside0.mk (Q_HO165 (hon 0 (by kernel_rfl)))
     have HA_HO165:=Aside0.mk (Q_HA_HO165 (hon 0 (by kernel_rfl)))
     obtain ⟨c_,hv_⟩:=HA_HO165.out
     have hF_:=HO165.out
     rw [hv_] at hF_
     obtain ⟨ad_,ea_,hx_⟩:=Kd.at_string (Kd.R_reads' hF_).2.2 (ji71) (of_eq_true pi166) (of_eq_true qi166)
     cases ea_
     refine value_ (w1:=w') (v:=.string (rdOf ByteArray.empty t163 (ji71))) (by rfl) rfl ?_ ?_
     ·go_simp
      (try simp only [i64_w])
      try rfl
     refine hK.out _ _ ⟨v164,adz_v164,v168,adz_v168,m3_,m8_,q114_,Q_HB,Q_HO165,Q_HA_HO165,Q_HO169,Q_HA_HO169,Q_X3_,Q_X8_⟩
    refine steps_cons ?_ ?_
    ·rintro b a w' ⟨v164,adz_v164,v168,adz_v168,m3_,m8_,ha,Q_HB,Q_HO165,Q_HA_HO165,Q_HO169,Q_HA_HO169,Q_X3_,Q_X8_⟩ hb_ hon hoff
     refine ⟨_,rfl,fun K hK => ?_⟩
     have e75:a.tmps[75]? = some (.string (rdOf ByteArray.empty t163 (ji71))):=by rw [ha];exact putSel_on (e:=(4,75,.string (rdOf ByteArray.empty t163 (ji71)))) 3 rfl rfl (hon 4 (by kernel_rfl)) rfl
     replace ha:=Aside0.mk ha
     have HB:=Aside0.mk Q_HB
     have HO165:=Aside0.mk (Q_HO165 (hon 0 (by kernel_rfl)))
     have HA_HO165:=Aside0.mk (Q_HA_HO165 (hon 0 (by kernel_rfl)))
     refine value_ (w1:=w') (v:=.string ((rdOf ByteArray.empty t163 (ji71)) ++ (⟨#[32]⟩:ByteArray))) (by rfl) rfl ?_ ?_
     ·go_simp
      (try simp only [i64_w])
      try rfl
     refine hK.out _ _ ⟨v164,adz_v164,v168,adz_v168,m3_,m8_,q115_,Q_HB,Q_HO165,Q_HA_HO165,Q_HO169,Q_HA_HO169,Q_X3_,Q_X8_⟩
    refine steps_cons ?_ ?_
    ·rintro b a w' ⟨v164,adz_v164,v168,adz_v168,m3_,m8_,ha,Q_HB,Q_HO165,Q_HA_HO165,Q_HO169,Q_HA_HO169,Q_X3_,Q_X8_⟩ hb_ hon hoff
     refine ⟨_,rfl,fun K hK => ?_⟩
     replace ha:=Aside0.mk ha
     have HB:=Aside0.mk Q_HB
     have HO165:=Aside0.mk (Q_HO165 (hon 0 (by kernel_rfl)))
     have HA_HO165:=Aside0.mk (Q_HA_HO165 (hon 0 (by kernel_rfl)))
     obtain ⟨co83,eo83⟩:=HA_HO165.out
     clear HA_HO165
     subst eo83
     refine goes_ Tryz.func96 (by kernel_rfl) rfl #[] (by rfl) rfl rfl (by first | (simp only [List.map_toArray,List.map_cons,List.map_nil,Act.eval,Array.getD_eq_getD_getElem?,Option.getD_some];done) | (simp only [List.map_toArray,List.map_cons,List.map_nil,Act.eval,Array.getD_eq_getD_getElem?,Option.getD_some];rfl)) ?_
     with_reducible refine (impl_regs.calls  t167 _ A75.out).mono ?_
     rintro e w84 ⟨v168,rfl,ho0,hb⟩
     refine ⟨_,rfl,?_⟩
     have n0_:=Aside0.mk (Kd.R_elder' q97_ (Kd.R_base ho0) hb)
     have n1_:=Aside0.mk (Kd.R_lower (Kd.R_new' ho0 (Kd.R_lt q97_)) (below_size q72_))
     have n2_:=Aside0.mk (below_step q72_ hb)
     clear HO165
     clear HB
     have HO165:=n0_
     have HO169:=n1_
     have HB:=n2_
     clear n0_ n1_ n2_
     (try clear hb)
     (try clear hb2)
     (try clear hk)
     (try clear hi)
     (try clear ho0)
     obtain ⟨Ao85,co85,eo85⟩:=Kd.R_slice HO169.out
     subst eo85
     obtain ⟨ado85,fo85,_⟩:=Kd.at_string (Kd.R_reads' HO169.out).2.2 0 (by decide) (by have h1_:=of_eq_true pi170;have h2_:=of_eq_true qi170;omega)
     cases fo85
     refine hK.out _ _ ⟨.slice (some adz_v164) t163.length co83,adz_v164,.slice (some ado85) t167.length co85,ado85,m3_,m8_,q116_,q72_,fun _ => (by (with_reducible repeat (first | apply Kd.R_alloc | apply Kd.R_drewN | apply Kd.R_drew));exact Kd.R_mono HO165.out (fun _ hk => by first | exact hk.2 | trivial)),fun _ => ⟨_,rfl⟩,fun _ => (by (with_reducible repeat (first | apply Kd.R_alloc | apply Kd.R_drewN | apply Kd.R_drew));exact Kd.R_mono HO169.out (fun _ hk => by first | exact hk.2 | trivial)),fun _ => ⟨_,rfl⟩,Q_X3_,fun h0_ => absurd ((hoff 8 (by kernel_rfl)).symm.trans h0_) (by decide)⟩
    refine steps_cons ?_ ?_
    ·rintro b a w' ⟨v164,adz_v164,v168,adz_v168,m3_,m8_,ha,Q_HB,Q_HO165,Q_HA_HO165,Q_HO169,Q_HA_HO169,Q_X3_,Q_X8_⟩ hb_ hon hoff
     refine ⟨_,rfl,fun K hK => ?_⟩
     have e77:a.tmps[77]? = some (v168):=by rw [ha];exact putSel_on (e:=(6,77,v168)) 5 rfl rfl (hon 6 (by kernel_rfl)) rfl
     have e78:a.tmps[78]? = some (.int .i64 a0):=by rw [ha];exact (putSel_off rfl).trans rfl
     replace ha:=Aside0.mk ha
     have HB:=Aside0.mk Q_HB
     have HO165:=Aside0.mk (Q_HO165 (hon 0 (by kernel_rfl)))
     have HA_HO165:=Aside0.mk (Q_HA_HO165 (hon 0 (by kernel_rfl)))
     have HO169:=Aside0.mk (Q_HO169 (hon 6 (by kernel_rfl)))
     have HA_HO169:=Aside0.mk (Q_HA_HO169 (hon 6 (by kernel_rfl)))
     obtain ⟨c_,hv_⟩:=HA_HO169.out
     rw [hv_] at e77
     refine value_ (w1:=w') (v:=.pointer (some (adz_v168.add (a0).toNat))) (by rfl) rfl ?_ ?_
     ·go_simp
      (try simp only [i64_w])
      try rfl
     refine hK.out _ _ ⟨v164,adz_v164,v168,adz_v168,m3_,(.pointer (some (adz_v168.add (a0).toNat))),q117_,Q_HB,Q_HO165,Q_HA_HO165,Q_HO169,Q_HA_HO169,Q_X3_,fun _ => rfl⟩
    refine steps_cons ?_ ?_
    ·rintro b a w' ⟨v164,adz_v164,v168,adz_v168,m3_,m8_,ha,Q_HB,Q_HO165,Q_HA_HO165,Q_HO169,Q_HA_HO169,Q_X3_,Q_X8_⟩ hb_ hon hoff
     refine ⟨_,rfl,fun K hK => ?_⟩
     have e79:a.tmps[79]? = some (m8_):=by rw [ha];exact putSel_on (e:=(8,79,m8_)) 6 rfl rfl (hon 8 (by kernel_rfl)) rfl
     rw [Q_X8_ (hon 8 (by kernel_rfl))] at e79
     replace ha:=Aside0.mk ha
     have HB:=Aside0.mk Q_HB
     have HO165:=Aside0.mk (Q_HO165 (hon 0 (by kernel_rfl)))
     have HA_HO165:=Aside0.mk (Q_HA_HO165 (hon 0 (by kernel_rfl)))
     have HO169:=Aside0.mk (Q_HO169 (hon 6 (by kernel_rfl)))
     have HA_HO169:=Aside0.mk (Q_HA_HO169 (hon 6 (by kernel_rfl)))
     obtain ⟨c_,hv_⟩:=HA_HO169.out
     have hF_:=HO169.out
     rw [hv_] at hF_
     obtain ⟨ad_,ea_,hx_⟩:=Kd.at_string (Kd.R_reads' hF_).2.2 a0 (of_eq_true pi170) (of_eq_true qi170)
     cases ea_
     refine value_ (w1:=w') (v:=.string (rdOf ByteArray.empty t167 a0)) (by rfl) rfl ?_ ?_
     ·go_simp
      (try simp only [i64_w])
      try rfl
     refine hK.out _ _ ⟨v164,adz_v164,v168,adz_v168,m3_,m8_,q118_,Q_HB,Q_HO165,Q_HA_HO165,Q_HO169,Q_HA_HO169,Q_X3_,Q_X8_⟩
    refine steps_cons ?_ ?_
    ·rintro b a w' ⟨v164,adz_v164,v168,adz_v168,m3_,m8_,ha,Q_HB,Q_HO165,Q_HA_HO165,Q_HO169,Q_HA_HO169,Q_X3_,Q_X8_⟩ hb_ hon hoff
     refine ⟨_,rfl,fun K hK => ?_⟩
     have e76:a.tmps[76]? = some (.string ((rdOf ByteArray.empty t163 (ji71)) ++ (⟨#[32]⟩:ByteArray))):=by rw [ha];exact putSel_on (e:=(5,76,.string ((rdOf ByteArray.empty t163 (ji71)) ++ (⟨#[32]⟩:ByteArray)))) 4 rfl rfl (hon 5 (by kernel_rfl)) rfl
     have e80:a.tmps[80]? = some (.string (rdOf ByteArray.empty t167 a0)):=by rw [ha];exact putSel_on (e:=(9,80,.string (rdOf ByteArray.empty t167 a0))) 7 rfl rfl (hon 9 (by kernel_rfl)) rfl
     replace ha:=Aside0.mk ha
     have HB:=Aside0.mk Q_HB
     have HO165:=Aside0.mk (Q_HO165 (hon 0 (by kernel_rfl)))
     have HA_HO165:=Aside0.mk (Q_HA_HO165 (hon 0 (by kernel_rfl)))
     have HO169:=Aside0.mk (Q_HO169 (hon 6 (by kernel_rfl)))
     have HA_HO169:=Aside0.mk (Q_HA_HO169 (hon 6 (by kernel_rfl)))
     refine value_ (w1:=w') (v:=.string (((rdOf ByteArray.empty t163 (ji71)) ++ (⟨#[32]⟩:ByteArray)) ++ (rdOf ByteArray.empty t167 a0))) (by rfl) rfl ?_ ?_
     ·go_simp
      (try simp only [i64_w])
      try rfl
     refine hK.out _ _ ⟨v164,adz_v164,v168,adz_v168,m3_,m8_,q119_,Q_HB,Q_HO165,Q_HA_HO165,Q_HO169,Q_HA_HO169,Q_X3_,Q_X8_⟩
    refine steps_cons ?_ ?_
    ·rintro b a w' ⟨v164,adz_v164,v168,adz_v168,m3_,m8_,ha,Q_HB,Q_HO165,Q_HA_HO165,Q_HO169,Q_HA_HO169,Q_X3_,Q_X8_⟩ hb_ hon hoff
     refine ⟨_,rfl,fun K hK => ?_⟩
     have e81:a.tmps[81]? = some (.string (((rdOf ByteArray.empty t163 (ji71)) ++ (⟨#[32]⟩:ByteArray)) ++ (rdOf ByteArray.empty t167 a0))):=by rw [ha];exact putSel_on (e:=(10,81,.string (((rdOf ByteArray.empty t163 (ji71)) ++ (⟨#[32]⟩:ByteArray)) ++ (rdOf ByteArray.empty t167 a0)))) 8 rfl rfl (hon 10 (by kernel_rfl)) rfl
     replace ha:=Aside0.mk ha
     have HB:=Aside0.mk Q_HB
     have HO165:=Aside0.mk (Q_HO165 (hon 0 (by kernel_rfl)))
     have HA_HO165:=Aside0.mk (Q_HA_HO165 (hon 0 (by kernel_rfl)))
     have HO169:=Aside0.mk (Q_HO169 (hon 6 (by kernel_rfl)))
     have HA_HO169:=Aside0.mk (Q_HA_HO169 (hon 6 (by kernel_rfl)))
     refine value_ (w1:=w') (v:=.string (((rdOf ByteArray.empty t163 (ji71)) ++ (⟨#[32]⟩:ByteArray)) ++ (rdOf ByteArray.empty t167 a0))) (by rfl) rfl ?_ ?_
     ·go_simp
      (try simp only [i64_w])
      try rfl
     refine hK.out _ _ ⟨v164,adz_v164,v168,adz_v168,m3_,m8_,q120_,Q_HB,Q_HO165,Q_HA_HO165,Q_HO169,Q_HA_HO169,Q_X3_,Q_X8_⟩
    exact steps_nil
   rintro b a w84 hall ⟨v164,adz_v164,v168,adz_v168,m3_,m8_,ha,Q_HB,Q_HO165,Q_HA_HO165,Q_HO169,Q_HA_HO169,Q_X3_,Q_X8_⟩
   clear HB
   have hb0_:=hall 0 (by kernel_rfl)
   have hb2_:=hall 2 (by kernel_rfl)
   have hb3_:=hall 3 (by kernel_rfl)
   have hb4_:=hall 4 (by kernel_rfl)
   have hb5_:=hall 5 (by kernel_rfl)
   have hb6_:=hall 6 (by kernel_rfl)
   have hb8_:=hall 8 (by kernel_rfl)
   have hb9_:=hall 9 (by kernel_rfl)
   have hb10_:=hall 10 (by kernel_rfl)
   have hb11_:=hall 11 (by kernel_rfl)
   subst ha
   obtain rfl:=Q_X3_ hb3_
   obtain rfl:=Q_X8_ hb8_
   simp only [putSel,hb0_,hb2_,hb3_,hb4_,hb5_,hb6_,hb8_,hb9_,hb10_,hb11_,if_true,Act.put,List.setIfInBounds_toArray,List.set_cons_zero,List.set_cons_succ]
   have HB:=Aside0.mk Q_HB
   clear Q_HB
   have HO165:=Aside0.mk (Q_HO165 hb0_)
   clear Q_HO165
   have HA_HO165:=Aside0.mk (Q_HA_HO165 hb0_)
   clear Q_HA_HO165
   have HO169:=Aside0.mk (Q_HO169 hb6_)
   clear Q_HO169
   have HA_HO169:=Aside0.mk (Q_HA_HO169 hb6_)
   clear Q_HA_HO169
   clear hall hb0_ hb2_ hb3_ hb4_ hb5_ hb6_ hb8_ hb9_ hb10_ hb11_
   obtain ⟨co85,eo85⟩:=HA_HO165.out
   clear HA_HO165
   subst eo85
   obtain ⟨co86,eo86⟩:=HA_HO169.out
   clear HA_HO169
   subst eo86
   try go_wp2
   go_ret
   exact ⟨by first | rfl | (simp [errW_none,errW_some] <;> rfl) | (simp only [← hji71];first | rfl | (simp [errW_none,errW_some] <;> rfl)) | (simp [*,errW_none,errW_some] <;> rfl) | (exfalso;simp_all;done),q72_⟩
  replace c69:=Bool.eq_false_iff.mpr c69
  subst c69
  rewrite [if_neg (show ¬ (false = true) by decide)] at H
  by_cases c87:a1 = 6
  ·rw [if_pos c87] at H
   have c87b0:(a1 == 6) = true:=beq_iff_eq.mpr c87
   have c87b1:(a1 != 6) = false:=bne_eq_false_iff_eq.mpr c87
   clear c87
   replace H:=Option.bind_eq_some_iff.mp H
   obtain ⟨t171,A880,H⟩:=H
   have A88:=Aside0.mk A880
   clear A880
   by_cases c89:0 ≤ a0
   rotate_left
   ·rw [if_neg c89] at H
    exact absurd H (by simp)
   rw [if_pos c89] at H
   have c89b0:=decide_eq_true c89
   clear c89
   by_cases c90:a0 < (t171.length:Int)
   rotate_left
   ·rw [if_neg c90] at H
    exact absurd H (by simp)
   rw [if_pos c90] at H
   have c90b0:=decide_eq_true c90
   clear c90
   by_cases c91:3 + (rdOf ByteArray.empty t171 a0).size ≤ 9223372036854775807
   rotate_left
   ·rw [if_neg c91] at H
    exact absurd H (by simp)
   rw [if_pos c91] at H
   have c91b0:=eq_true c91
   have c91b1:=decide_eq_true c91
   try have c91b2:(9223372036854775807 < 3 + (rdOf ByteArray.empty t171 a0).size) = False:=eq_false (Nat.not_lt.2 c91)
   by_cases c92:((⟨#[108,100,32]⟩:ByteArray) ++ (rdOf ByteArray.empty t171 a0)).size + 3 ≤ 9223372036854775807
   rotate_left
   ·rw [if_neg c92] at H
    exact absurd H (by simp)
   rw [if_pos c92] at H
   have c92b0:=eq_true c92
   (try (have c92b0e:=c92b0;simp only [ByteArray.size_append,ByteArray.size_extract,Nat.min_self,Nat.sub_zero,show (⟨#[108,100,32]⟩:ByteArray).size = 3 from rfl] at c92b0e))
   have c92b1:=decide_eq_true c92
   (try (have c92b1e:=c92b1;simp only [ByteArray.size_append,ByteArray.size_extract,Nat.min_self,Nat.sub_zero,show (⟨#[108,100,32]⟩:ByteArray).size = 3 from rfl] at c92b1e))
   try have c92b2:(9223372036854775807 < ((⟨#[108,100,32]⟩:ByteArray) ++ (rdOf ByteArray.empty t171 a0)).size + 3) = False:=eq_false (Nat.not_lt.2 c92)
   (try (have c92b2e:=c92b2;simp only [ByteArray.size_append,ByteArray.size_extract,Nat.min_self,Nat.sub_zero,show (⟨#[108,100,32]⟩:ByteArray).size = 3 from rfl] at c92b2e))
   obtain rfl:=Option.some.inj H
   go_wp2_with (first | ((with_reducible refine gate_callee (f:=96) rfl ?_);refine goesL_ (some 84) rfl rfl Tryz.func96 (by kernel_rfl) rfl #[] rfl q71_ ?_;(with_reducible refine (impl_regs.calls  t171 _ A88.out).mono ?_);rintro e w93 ⟨v172,rfl,ho0,hb⟩;refine ⟨_,rfl,?_⟩;have n0_:=Aside0.mk (Kd.R_lower ho0 (below_size q72_));have n1_:=Aside0.mk (below_step q72_ hb);clear HB;have HO173:=n0_;have HB:=n1_;clear n0_ n1_;(try clear hb);(try clear ho0);obtain ⟨Ao94,co94,eo94⟩:=Kd.R_slice HO173.out;subst eo94;have p174:0 ≤ (a0:Int):=of_decide_eq_true q109_;have q174:a0 < (t171.length:Int):=of_decide_eq_true q109_;obtain ⟨ad174,e174,hx174_0⟩:=Kd.at_string (Kd.R_reads' HO173.out).2.2 a0 p174 q174;cases e174;replace p174:=eq_true p174;replace q174:=eq_true q174))
   go_ret
   exact ⟨q74_,q72_⟩
  rw [if_neg c87] at H
  have c87b0:(a1 == 6) = false:=beq_eq_false_iff_ne.mpr c87
  have c87b1:(a1 != 6) = true:=bne_iff_ne.mpr c87
  replace H:=Option.bind_eq_some_iff.mp H
  obtain ⟨t175,A950,H⟩:=H
  have A95:=Aside0.mk A950
  clear A950
  by_cases c96:0 ≤ a0
  rotate_left
  ·rw [if_neg c96] at H
   exact absurd H (by simp)
  rw [if_pos c96] at H
  have c96b0:=decide_eq_true c96
  clear c96
  by_cases c97:a0 < (t175.length:Int)
  rotate_left
  ·rw [if_neg c97] at H
   exact absurd H (by simp)
  rw [if_pos c97] at H
  have c97b0:=decide_eq_true c97
  clear c97
  obtain rfl:=Option.some.inj H
  go_wp2_with (first | ((with_reducible refine gate_callee (f:=97) rfl ?_);refine goesL_ (some 90) rfl rfl Tryz.func97 (by kernel_rfl) rfl #[.string (⟨#[114,108,99,97,32,114,114,99,97,32,114,108,97,32,114,114,97,32,100,97,97,32,99,112,108,32,115,99,102,32,99,99,102]⟩:ByteArray)] rfl q71_ ?_;(with_reducible refine (impl_names.calls (⟨#[114,108,99,97,32,114,114,99,97,32,114,108,97,32,114,114,97,32,100,97,97,32,99,112,108,32,115,99,102,32,99,99,102]⟩:ByteArray) t175 _ A95.out).mono ?_);rintro e w98 ⟨v176,rfl,ho0,hb⟩;refine ⟨_,rfl,?_⟩;have n0_:=Aside0.mk (Kd.R_lower ho0 (below_size q72_));have n1_:=Aside0.mk (below_step q72_ hb);clear HB;have HO177:=n0_;have HB:=n1_;clear n0_ n1_;(try clear hb);(try clear ho0);obtain ⟨Ao99,co99,eo99⟩:=Kd.R_slice HO177.out;subst eo99;have p178:0 ≤ (a0:Int):=of_decide_eq_true q109_;have q178:a0 < (t175.length:Int):=of_decide_eq_true q109_;obtain ⟨ad178,e178,hx178_0⟩:=Kd.at_string (Kd.R_reads' HO177.out).2.2 a0 p178 q178;cases e178;replace p178:=eq_true p178;replace q178:=eq_true q178))
  go_ret
  exact ⟨q74_,q72_⟩
end Go.Proofs.YtodlnnoekccmmaaGreatDoor.QFnInsTexts
