/- The machine's side of a law,written by a program of this session for this claim. -/
import Derived.Test.YtodlnnoekccmmaaGreatDoorIQq
import Derived.Test.YtodlnnoekccmmaaGreatDoorIQFnInsTextsx0
namespace Go.Proofs.YtodlnnoekccmmaaGreatDoor.QFnInsTexts
open Go.Proofs.YtodlnnoekccmmaaGreatDoor.Qq
open Go.RowKit Go.Proofs.YtodlnnoekccmmaaGreatDoor.LibX Go.Proofs.YtodlnnoekccmmaaGreatDoor.LibE Go.Proofs.YtodlnnoekccmmaaGreatDoor.LibCB Go.Proofs.YtodlnnoekccmmaaGreatDoorW.PrintWords Go.Proofs.YtodlnnoekccmmaaGreatDoorW.PrintLast Go.Proofs.YtodlnnoekccmmaaGreatDoorW.PrintMore
attribute [local go_sem] max2_int min2_int max_two min_two max_three min_three max_four min_four   -- for this text's walks alone
set_option maxHeartbeats 8000000
set_option maxRecDepth 100000
set_option linter.unusedVariables false
set_option linter.unusedSimpArgs false
def laws_big.f (l0:List Int):Option (Bool):=some (decide ((l0.length:Int) > 1048576))
theorem laws_big.calls (A0:Option Addr) (c0:Nat) (l0:List Int) (r:Bool) (w:World) (hr0:Kd.C (Kd.int .u8) w A0 l0.length l0) (hc0:l0.length ≤ c0) (h:laws_big.f l0 = some r) :
  Calls Tryz.prog 11 #[.slice A0 l0.length c0] w fun e w' => e = .returned (.bool r) ∧ Drawn0 w w':=by
 have HR0:=Aside0.mk hr0
 have HC0:=Aside0.mk hc0
 clear hr0 hc0
 have H:(some (decide ((l0.length:Int) > 1048576))) = some r:=h
 clear h
 obtain rfl:=Option.some.inj H
 go_enter Tryz.func11,Tryz.ntmps11
 go_wp2
 go_ret
 exact ⟨q92_,q108_⟩
def impl_within.f (a0:Int) (a1:Int) (a2:Int):Option (Bool):=if a0 ≥ a1 then (some (decide (a0 ≤ a2))) else (some false)
theorem impl_within.calls (a0:Int) (a1:Int) (a2:Int) (r:Bool) (w:World) (h:impl_within.f a0 a1 a2 = some r) :
  Calls Tryz.prog 61 #[.int .i64 a0,.int .i64 a1,.int .i64 a2] w fun e w' => e = .returned (.bool r) ∧ Drawn0 w w':=by
 have H:=h;unfold impl_within.f at H
 clear h
 by_cases c4:a0 ≥ a1
 ·rw [if_pos c4] at H
  have c4b0:decide (a1 ≤ a0) = true:=decide_eq_true c4
  clear c4
  obtain rfl:=Option.some.inj H
  go_enter Tryz.func61,Tryz.ntmps61
  go_wp2
  go_ret
  exact ⟨q92_,q108_⟩
 rw [if_neg c4] at H
 have c4b0:decide (a1 ≤ a0) = false:=decide_eq_false c4
 clear c4
 obtain rfl:=Option.some.inj H
 go_enter Tryz.func61,Tryz.ntmps61
 go_wp2
 go_ret
 exact ⟨q92_,q108_⟩
def impl_isByte.f (a0:Int):Option (Bool):=(impl_within.f a0 0 255).bind fun t101 => (some t101)
theorem impl_isByte.calls (a0:Int) (r:Bool) (w:World) (h:impl_isByte.f a0 = some r) :
  Calls Tryz.prog 58 #[.int .i64 a0] w fun e w' => e = .returned (.bool r) ∧ Drawn0 w w':=by
 have H:=h;unfold impl_isByte.f at H
 clear h
 replace H:=Option.bind_eq_some_iff.mp H
 obtain ⟨t101,A20,H⟩:=H
 have A2:=Aside0.mk A20
 clear A20
 obtain rfl:=Option.some.inj H
 go_enter Tryz.func58,Tryz.ntmps58
 go_wp2_with (first | ((with_reducible refine gate_callee (f:=61) rfl ?_);refine goesL_ (some 4) rfl rfl Tryz.func61 (by kernel_rfl) rfl #[.int .i64 a0,.int .i64 0,.int .i64 255] rfl q71_ ?_;(with_reducible refine (impl_within.calls a0 0 255 t101 _ A2.out).mono ?_);rintro e w' ⟨rfl,⟨nd,rfl⟩⟩;refine ⟨_,rfl,?_⟩))
 go_ret
 exact ⟨q92_,q108_⟩
def impl_decimal.f (a0:Int):Option (ByteArray):=(strconv_FormatInt.f a0 10).bind fun t102 => (some t102)
theorem impl_decimal.calls (a0:Int) (r:ByteArray) (w:World) (h:impl_decimal.f a0 = some r) (hG:Go.Proofs.YtodlnnoekccmmaaGreatDoor.LibW.GL w:=by first | exact hG | exact hG.below q10_ | exact hG.drewN _) :
  Calls Tryz.prog 89 #[.int .i64 a0] w fun e w' => e = .returned (.string r) ∧ Below w.heap.size w w':=by
 have HB:=Aside0.mk (Below.refl w.heap.size w)
 have H:=h;unfold impl_decimal.f at H
 clear h
 replace H:=Option.bind_eq_some_iff.mp H
 obtain ⟨t102,A20,H⟩:=H
 have A2:=Aside0.mk A20
 clear A20
 obtain rfl:=Option.some.inj H
 go_enter Tryz.func89,Tryz.ntmps89
 go_wp2_with (first | ((with_reducible refine gate_callee (f:=127) rfl ?_);refine goesL_ (some 4) rfl rfl Tryz.func127 (by kernel_rfl) rfl #[.int .i64 a0,.int .i64 10] rfl q71_ ?_;(with_reducible refine (strconv_FormatInt.calls a0 10 t102 _ A2.out).mono ?_);rintro e w3 ⟨rfl,hb⟩;refine ⟨_,rfl,?_⟩;replace HB:=Aside0.mk (below_step q72_ hb);(try clear hb)))
 go_ret
 exact ⟨q74_,q72_⟩
def impl_names.f (a0:ByteArray):Option (List ByteArray):=(strings_Split.f a0 (⟨#[32]⟩:ByteArray)).bind fun t103 => (some t103)
theorem impl_names.calls (a0:ByteArray) (r:List ByteArray) (w:World) (h:impl_names.f a0 = some r) (hG:Go.Proofs.YtodlnnoekccmmaaGreatDoor.LibW.GL w:=by first | exact hG | exact hG.below q10_ | exact hG.drewN _) :
  Calls Tryz.prog 97 #[.string a0] w fun e w' => ∃ v0_:Value,e = .returned (v0_) ∧ Kd.R Kd.string 9 w' w.heap.size (fun _ => True) v0_ r ∧ Below w.heap.size w w':=by
 have HB:=Aside0.mk (Below.refl w.heap.size w)
 have H:=h;unfold impl_names.f at H
 clear h
 replace H:=Option.bind_eq_some_iff.mp H
 obtain ⟨t103,A20,H⟩:=H
 have A2:=Aside0.mk A20
 clear A20
 obtain rfl:=Option.some.inj H
 go_enter Tryz.func97,Tryz.ntmps97
 go_wp2_with (first | ((with_reducible refine gate_callee (f:=131) rfl ?_);refine goesL_ (some 4) rfl rfl Tryz.func131 (by kernel_rfl) rfl #[.string a0,.string (⟨#[32]⟩:ByteArray)] rfl q71_ ?_;(with_reducible refine (strings_Split.calls a0 (⟨#[32]⟩:ByteArray) t103 _ A2.out).mono ?_);rintro e w3 ⟨v104,rfl,ho0,hb⟩;refine ⟨_,rfl,?_⟩;have n0_:=Aside0.mk (Kd.R_lower ho0 (below_size q72_));have n1_:=Aside0.mk (below_step q72_ hb);clear HB;have HO105:=n0_;have HB:=n1_;clear n0_ n1_;(try clear hb);(try clear ho0)))
 go_ret
 exact ⟨_,q74_,by (with_reducible repeat (first | apply Kd.R_alloc | apply Kd.R_drewN | apply Kd.R_drew));exact HO105.out,q72_⟩
def impl_regs.f :Option (List ByteArray):=(impl_names.f (⟨#[98,32,99,32,100,32,101,32,104,32,108,32,91,104,108,93,32,97]⟩:ByteArray)).bind fun t106 => (some t106)
theorem impl_regs.calls  (r:List ByteArray) (w:World) (h:impl_regs.f  = some r) (hG:Go.Proofs.YtodlnnoekccmmaaGreatDoor.LibW.GL w:=by first | exact hG | exact hG.below q10_ | exact hG.drewN _) :
  Calls Tryz.prog 96 #[] w fun e w' => ∃ v0_:Value,e = .returned (v0_) ∧ Kd.R Kd.string 9 w' w.heap.size (fun _ => True) v0_ r ∧ Below w.heap.size w w':=by
 have HB:=Aside0.mk (Below.refl w.heap.size w)
 have H:=h;unfold impl_regs.f at H
 clear h
 replace H:=Option.bind_eq_some_iff.mp H
 obtain ⟨t106,A10,H⟩:=H
 have A1:=Aside0.mk A10
 clear A10
 obtain rfl:=Option.some.inj H
 go_enter Tryz.func96,Tryz.ntmps96
 go_wp2_with (first | ((with_reducible refine gate_callee (f:=97) rfl ?_);refine goesL_ (some 1) rfl rfl Tryz.func97 (by kernel_rfl) rfl #[.string (⟨#[98,32,99,32,100,32,101,32,104,32,108,32,91,104,108,93,32,97]⟩:ByteArray)] rfl q71_ ?_;(with_reducible refine (impl_names.calls (⟨#[98,32,99,32,100,32,101,32,104,32,108,32,91,104,108,93,32,97]⟩:ByteArray) t106 _ A1.out).mono ?_);rintro e w2 ⟨v107,rfl,ho0,hb⟩;refine ⟨_,rfl,?_⟩;have n0_:=Aside0.mk (Kd.R_lower ho0 (below_size q72_));have n1_:=Aside0.mk (below_step q72_ hb);clear HB;have HO108:=n0_;have HB:=n1_;clear n0_ n1_;(try clear hb);(try clear ho0)))
 go_ret
 exact ⟨_,q74_,by (with_reducible repeat (first | apply Kd.R_alloc | apply Kd.R_drewN | apply Kd.R_drew));exact HO108.out,q72_⟩
def impl_turns.f :Option (List ByteArray):=(impl_names.f (⟨#[114,108,99,32,114,114,99,32,114,108,32,114,114,32,115,108,97,32,115,114,97,32,115,119,97,112,32,115,114,108]⟩:ByteArray)).bind fun t109 => (some t109)
theorem impl_turns.calls  (r:List ByteArray) (w:World) (h:impl_turns.f  = some r) (hG:Go.Proofs.YtodlnnoekccmmaaGreatDoor.LibW.GL w:=by first | exact hG | exact hG.below q10_ | exact hG.drewN _) :
  Calls Tryz.prog 128 #[] w fun e w' => ∃ v0_:Value,e = .returned (v0_) ∧ Kd.R Kd.string 9 w' w.heap.size (fun _ => True) v0_ r ∧ Below w.heap.size w w':=by
 have HB:=Aside0.mk (Below.refl w.heap.size w)
 have H:=h;unfold impl_turns.f at H
 clear h
 replace H:=Option.bind_eq_some_iff.mp H
 obtain ⟨t109,A10,H⟩:=H
 have A1:=Aside0.mk A10
 clear A10
 obtain rfl:=Option.some.inj H
 go_enter Tryz.func128,Tryz.ntmps128
 go_wp2_with (first | ((with_reducible refine gate_callee (f:=97) rfl ?_);refine goesL_ (some 1) rfl rfl Tryz.func97 (by kernel_rfl) rfl #[.string (⟨#[114,108,99,32,114,114,99,32,114,108,32,114,114,32,115,108,97,32,115,114,97,32,115,119,97,112,32,115,114,108]⟩:ByteArray)] rfl q71_ ?_;(with_reducible refine (impl_names.calls (⟨#[114,108,99,32,114,114,99,32,114,108,32,114,114,32,115,108,97,32,115,114,97,32,115,119,97,112,32,115,114,108]⟩:ByteArray) t109 _ A1.out).mono ?_);rintro e w2 ⟨v110,rfl,ho0,hb⟩;refine ⟨_,rfl,?_⟩;have n0_:=Aside0.mk (Kd.R_lower ho0 (below_size q72_));have n1_:=Aside0.mk (below_step q72_ hb);clear HB;have HO111:=n0_;have HB:=n1_;clear n0_ n1_;(try clear hb);(try clear ho0)))
 go_ret
 exact ⟨_,q74_,by (with_reducible repeat (first | apply Kd.R_alloc | apply Kd.R_drewN | apply Kd.R_drew));exact HO111.out,q72_⟩
def impl_prefixed.f (a0:Int) (a1:Int) (a2:Int):Option (ByteArray):=if a0 = 0 then ((impl_turns.f).bind fun t112 => (if 0 ≤ a1 then (if a1 < (t112.length:Int) then (if (rdOf ByteArray.empty t112 a1).size + 1 ≤ 9223372036854775807 then ((impl_regs.f).bind fun t116 => (if 0 ≤ a2 then (if a2 < (t116.length:Int) then (if ((rdOf ByteArray.empty t112 a1) ++ (⟨#[32]⟩:ByteArray)).size + (rdOf ByteArray.empty t116 a2).size ≤ 9223372036854775807 then (some (((rdOf ByteArray.empty t112 a1) ++ (⟨#[32]⟩:ByteArray)) ++ (rdOf ByteArray.empty t116 a2))) else (none)) else (none)) else (none))) else (none)) else (none)) else (none))) else ((impl_names.f (⟨#[98,105,116,32,114,101,115,32,115,101,116]⟩:ByteArray)).bind fun t120 => (if 0 ≤ (wrap64 (a0 - 1)) then (if (wrap64 (a0 - 1)) < (t120.length:Int) then (if (rdOf ByteArray.empty t120 (wrap64 (a0 - 1))).size + 1 ≤ 9223372036854775807 then ((impl_decimal.f a1).bind fun t124 => (if ((rdOf ByteArray.empty t120 (wrap64 (a0 - 1))) ++ (⟨#[32]⟩:ByteArray)).size + t124.size ≤ 9223372036854775807 then (if (((rdOf ByteArray.empty t120 (wrap64 (a0 - 1))) ++ (⟨#[32]⟩:ByteArray)) ++ t124).size + 1 ≤ 9223372036854775807 then ((impl_regs.f).bind fun t125 => (if 0 ≤ a2 then (if a2 < (t125.length:Int) then (if ((((rdOf ByteArray.empty t120 (wrap64 (a0 - 1))) ++ (⟨#[32]⟩:ByteArray)) ++ t124) ++ (⟨#[44]⟩:ByteArray)).size + (rdOf ByteArray.empty t125 a2).size ≤ 9223372036854775807 then (some (((((rdOf ByteArray.empty t120 (wrap64 (a0 - 1))) ++ (⟨#[32]⟩:ByteArray)) ++ t124) ++ (⟨#[44]⟩:ByteArray)) ++ (rdOf ByteArray.empty t125 a2))) else (none)) else (none)) else (none))) else (none)) else (none))) else (none)) else (none)) else (none)))
def impl_prefixed.T2:Bool × List (List Nat × List Nat):=(true,[([],[]),([],[]),([0,1],[0,1]),([2],[2]),([3],[3]),([0],[]),([],[]),([5,6],[5,6]),([7],[7]),([4,8],[4,8]),([9,5,0,1,2,3,4,5,6,7,8,9],[9])])
def impl_prefixed.B2:List Nat:=[0,0,3,7,15,1,0,97,225,511,1023]
theorem impl_prefixed.tab2:rtab .any (opsOf Tryz.f92 2) = impl_prefixed.T2:=by kernel_rfl
theorem impl_prefixed.bits2:waitsOk impl_prefixed.T2.2 impl_prefixed.B2 = true:=by kernel_rfl
def impl_prefixed.T3:Bool × List (List Nat × List Nat):=(true,[([],[]),([],[]),([1],[1]),([0,2],[0,2]),([3],[3]),([4],[4]),([],[]),([6,0],[6]),([5,7],[5,7]),([8],[8]),([7],[]),([],[]),([10,11],[10,11]),([12],[12]),([9,13],[9,13]),([14,10,0,1,2,3,4,5,6,7,8,9,10,11,12,13,14],[14])])
def impl_prefixed.B3:List Nat:=[0,0,2,7,15,31,0,65,255,511,193,0,3265,7361,16383,32767]
theorem impl_prefixed.tab3:rtab .any (opsOf Tryz.f92 3) = impl_prefixed.T3:=by kernel_rfl
theorem impl_prefixed.bits3:waitsOk impl_prefixed.T3.2 impl_prefixed.B3 = true:=by kernel_rfl
theorem impl_prefixed.calls (a0:Int) (a1:Int) (a2:Int) (r:ByteArray) (w:World) (h:impl_prefixed.f a0 a1 a2 = some r) (hG:Go.Proofs.YtodlnnoekccmmaaGreatDoor.LibW.GL w:=by first | exact hG | exact hG.below q10_ | exact hG.drewN _) :
  Calls Tryz.prog 92 #[.int .i64 a0,.int .i64 a1,.int .i64 a2] w fun e w' => e = .returned (.string r) ∧ Below w.heap.size w w':=by
 have HB:=Aside0.mk (Below.refl w.heap.size w)
 have H:=h;unfold impl_prefixed.f at H
 clear h
 by_cases c4:a0 = 0
 ·rw [if_pos c4] at H
  have c4b0:(a0 == 0) = true:=beq_iff_eq.mpr c4
  have c4b1:(a0 != 0) = false:=bne_eq_false_iff_eq.mpr c4
  clear c4
  replace H:=Option.bind_eq_some_iff.mp H
  obtain ⟨t112,A50,H⟩:=H
  have A5:=Aside0.mk A50
  clear A50
  by_cases c6:0 ≤ a1
  rotate_left
  ·rw [if_neg c6] at H
   exact absurd H (by simp)
  rw [if_pos c6] at H
  have c6b0:=decide_eq_true c6
  clear c6
  by_cases c7:a1 < (t112.length:Int)
  rotate_left
  ·rw [if_neg c7] at H
   exact absurd H (by simp)
  rw [if_pos c7] at H
  have c7b0:=decide_eq_true c7
  clear c7
  by_cases c8:(rdOf ByteArray.empty t112 a1).size + 1 ≤ 9223372036854775807
  rotate_left
  ·rw [if_neg c8] at H
   exact absurd H (by simp)
  rw [if_pos c8] at H
  have c8b0:=eq_true c8
  have c8b1:=decide_eq_true c8
  try have c8b2:(9223372036854775807 < (rdOf ByteArray.empty t112 a1).size + 1) = False:=eq_false (Nat.not_lt.2 c8)
  replace H:=Option.bind_eq_some_iff.mp H
  obtain ⟨t116,A90,H⟩:=H
  have A9:=Aside0.mk A90
  clear A90
  by_cases c10:0 ≤ a2
  rotate_left
  ·rw [if_neg c10] at H
   exact absurd H (by simp)
  rw [if_pos c10] at H
  have c10b0:=decide_eq_true c10
  clear c10
  by_cases c11:a2 < (t116.length:Int)
  rotate_left
  ·rw [if_neg c11] at H
   exact absurd H (by simp)
  rw [if_pos c11] at H
  have c11b0:=decide_eq_true c11
  clear c11
  by_cases c12:((rdOf ByteArray.empty t112 a1) ++ (⟨#[32]⟩:ByteArray)).size + (rdOf ByteArray.empty t116 a2).size ≤ 9223372036854775807
  rotate_left
  ·rw [if_neg c12] at H
   exact absurd H (by simp)
  rw [if_pos c12] at H
  have c12b0:=eq_true c12
  (try (have c12b0e:=c12b0;simp only [ByteArray.size_append,ByteArray.size_extract,Nat.min_self,Nat.sub_zero,show (⟨#[32]⟩:ByteArray).size = 1 from rfl] at c12b0e))
  have c12b1:=decide_eq_true c12
  (try (have c12b1e:=c12b1;simp only [ByteArray.size_append,ByteArray.size_extract,Nat.min_self,Nat.sub_zero,show (⟨#[32]⟩:ByteArray).size = 1 from rfl] at c12b1e))
  try have c12b2:(9223372036854775807 < ((rdOf ByteArray.empty t112 a1) ++ (⟨#[32]⟩:ByteArray)).size + (rdOf ByteArray.empty t116 a2).size) = False:=eq_false (Nat.not_lt.2 c12)
  (try (have c12b2e:=c12b2;simp only [ByteArray.size_append,ByteArray.size_extract,Nat.min_self,Nat.sub_zero,show (⟨#[32]⟩:ByteArray).size = 1 from rfl] at c12b2e))
  obtain rfl:=Option.some.inj H
  go_enter Tryz.func92,Tryz.ntmps92
  try go_wp2
  have pi115:(0 ≤ (a1:Int)) = True:=eq_true (of_decide_eq_true q109_)
  have qi115:(a1 < (t112.length:Int)) = True:=eq_true (of_decide_eq_true q109_)
  have pi119:(0 ≤ (a2:Int)) = True:=eq_true (of_decide_eq_true q109_)
  have qi119:(a2 < (t116.length:Int)) = True:=eq_true (of_decide_eq_true q109_)
  have n0_:=Aside0.mk (below_drew1 HB.out)
  clear HB
  have HB:=n0_
  clear n0_
  refine start_ (n:=11) (S:=fun w' => True) (ds:=[]) #[false,false,false,false,false,false,false,false,false,false,false] (by kernel_rfl) rfl rfl trivial (fun hHeld => ?_);refine with_tabW impl_prefixed.tab2 impl_prefixed.bits2 (fun HT_ HW_ => ?_)
  generalize w.drew = w13 at HB hHeld ⊢
  refine pure_ (i:=1) (N:=some 10) (v:=?_) (a':=?_) #[false,true,false,false,false,false,false,false,false,false,false] rfl rfl (any_of HT_.out (by kernel_rfl)) (fun _ _ _ h => h) (Or.inl ⟨by rfl,?_⟩) ?_ ?_
  rotate_left
  ·intro w'
   go_simp
   with_reducible rfl
  rotate_left
  ·simp only [Act.put,List.setIfInBounds_toArray,List.set_cons_zero,List.set_cons_succ,i64_w,i32_w]
   rfl
  refine pure_ (i:=6) (N:=some 15) (v:=?_) (a':=?_) #[false,true,false,false,false,false,true,false,false,false,false] rfl rfl (any_of HT_.out (by kernel_rfl)) (fun _ _ _ h => h) (Or.inl ⟨by rfl,?_⟩) ?_ ?_
  rotate_left
  ·intro w'
   go_simp
   with_reducible rfl
  rotate_left
  ·simp only [Act.put,List.setIfInBounds_toArray,List.set_cons_zero,List.set_cons_succ,i64_w,i32_w]
   rfl
  refine inv_at [0,2,3,4,5,7,8,9,10] (fun a0_ b a w' => ∃ (v113:Value) (adz_v113:Addr) (v117:Value) (adz_v117:Addr) (m2_:Value) (m7_:Value),a = putSel a0_ b [(0,9,v113),(2,11,m2_),(3,12,.string (rdOf ByteArray.empty t112 a1)),(4,13,.string ((rdOf ByteArray.empty t112 a1) ++ (⟨#[32]⟩:ByteArray))),(5,14,v117),(7,16,m7_),(8,17,.string (rdOf ByteArray.empty t116 a2)),(9,18,.string (((rdOf ByteArray.empty t112 a1) ++ (⟨#[32]⟩:ByteArray)) ++ (rdOf ByteArray.empty t116 a2))),(10,6,.string (((rdOf ByteArray.empty t112 a1) ++ (⟨#[32]⟩:ByteArray)) ++ (rdOf ByteArray.empty t116 a2)))] ∧ (Below w.heap.size w w') ∧ (b 0 = true → Kd.R Kd.string 9 w' w.heap.size (fun _ => True) v113 t112) ∧ (b 0 = true → ∃ c_,(v113:Value) = .slice (some adz_v113) t112.length c_) ∧ (b 5 = true → Kd.R Kd.string 9 w' w.heap.size (fun _ => True) v117 t116) ∧ (b 5 = true → ∃ c_,(v117:Value) = .slice (some adz_v117) t116.length c_) ∧ (b 2 = true → (m2_:Value) = .pointer (some (adz_v113.add (a1).toNat))) ∧ (b 7 = true → (m7_:Value) = .pointer (some (adz_v117.add (a2).toNat)))) HT_.out HW_.out (by kernel_rfl) (by kernel_rfl) ?_ ?_ ?_
  ·exact ⟨.bool false,⟨0,0,none⟩,.bool false,⟨0,0,none⟩,.bool false,.bool false,q110_,HB.out,fun h_ => absurd h_ (by decide),fun h_ => absurd h_ (by decide),fun h_ => absurd h_ (by decide),fun h_ => absurd h_ (by decide),fun h_ => absurd h_ (by decide),fun h_ => absurd h_ (by decide)⟩
  ·skip
   clear HB
   refine steps_cons ?_ ?_
   ·rintro b a w' ⟨v113,adz_v113,v117,adz_v117,m2_,m7_,ha,Q_HB,Q_HO114,Q_HA_HO114,Q_HO118,Q_HA_HO118,Q_X2_,Q_X7_⟩ hb_ hon hoff
    refine ⟨_,rfl,fun K hK => ?_⟩
    replace ha:=Aside0.mk ha
    have HB:=Aside0.mk Q_HB
    refine goes_ Tryz.func128 (by kernel_rfl) rfl #[] (by rfl) rfl rfl (by first | (simp only [List.map_toArray,List.map_cons,List.map_nil,Act.eval,Array.getD_eq_getD_getElem?,Option.getD_some];done) | (simp only [List.map_toArray,List.map_cons,List.map_nil,Act.eval,Array.getD_eq_getD_getElem?,Option.getD_some];rfl)) ?_
    with_reducible refine (impl_turns.calls  t112 _ A5.out).mono ?_
    rintro e w14 ⟨v113,rfl,ho0,hb⟩
    refine ⟨_,rfl,?_⟩
    have n0_:=Aside0.mk (Kd.R_lower ho0 (below_size q72_))
    have n1_:=Aside0.mk (below_step q72_ hb)
    clear HB
    have HO114:=n0_
    have HB:=n1_
    clear n0_ n1_
    (try clear hb)
    (try clear hb2)
    (try clear hk)
    (try clear hi)
    (try clear ho0)
    obtain ⟨Ao15,co15,eo15⟩:=Kd.R_slice HO114.out
    subst eo15
    obtain ⟨ado15,fo15,_⟩:=Kd.at_string (Kd.R_reads' HO114.out).2.2 0 (by decide) (by have h1_:=of_eq_true pi115;have h2_:=of_eq_true qi115;omega)
    cases fo15
    refine hK.out _ _ ⟨.slice (some ado15) t112.length co15,ado15,v117,adz_v117,m2_,m7_,q111_,q72_,fun _ => q94_,fun _ => ⟨_,rfl⟩,fun h0_ => absurd ((hoff 5 (by kernel_rfl)).symm.trans h0_) (by decide),fun h0_ => absurd ((hoff 5 (by kernel_rfl)).symm.trans h0_) (by decide),fun h0_ => absurd ((hoff 2 (by kernel_rfl)).symm.trans h0_) (by decide),fun h0_ => absurd ((hoff 7 (by kernel_rfl)).symm.trans h0_) (by decide)⟩
   refine steps_cons ?_ ?_
   ·rintro b a w' ⟨v113,adz_v113,v117,adz_v117,m2_,m7_,ha,Q_HB,Q_HO114,Q_HA_HO114,Q_HO118,Q_HA_HO118,Q_X2_,Q_X7_⟩ hb_ hon hoff
    refine ⟨_,rfl,fun K hK => ?_⟩
    have e9:a.tmps[9]? = some (v113):=by rw [ha];exact putSel_on (e:=(0,9,v113)) 0 rfl rfl (hon 0 (by kernel_rfl)) rfl
    have e10:a.tmps[10]? = some (.int .i64 a1):=by rw [ha];exact (putSel_off rfl).trans rfl
    replace ha:=Aside0.mk ha
    have HB:=Aside0.mk Q_HB
    have HO114:=Aside0.mk (Q_HO114 (hon 0 (by kernel_rfl)))
    have HA_HO114:=Aside0.mk (Q_HA_HO114 (hon 0 (by kernel_rfl)))
    obtain ⟨c_,hv_⟩:=HA_HO114.out
    rw [hv_] at e9
    refine value_ (w1:=w') (v:=.pointer (some (adz_v113.add (a1).toNat))) (by rfl) rfl ?_ ?_
    ·go_simp
     (try simp only [i64_w])
     try rfl
    refine hK.out _ _ ⟨v113,adz_v113,v117,adz_v117,(.pointer (some (adz_v113.add (a1).toNat))),m7_,q112_,Q_HB,Q_HO114,Q_HA_HO114,Q_HO118,Q_HA_HO118,fun _ => rfl,Q_X7_⟩
   refine steps_cons ?_ ?_
   ·rintro b a w' ⟨v113,adz_v113,v117,adz_v117,m2_,m7_,ha,Q_HB,Q_HO114,Q_HA_HO114,Q_HO118,Q_HA_HO118,Q_X2_,Q_X7_⟩ hb_ hon hoff
    refine ⟨_,rfl,fun K hK => ?_⟩
    have e11:a.tmps[11]? = some (m2_):=by rw [ha];exact putSel_on (e:=(2,11,m2_)) 1 rfl rfl (hon 2 (by kernel_rfl)) rfl
    rw [Q_X2_ (hon 2 (by kernel_rfl))] at e11
    replace ha:=Aside0.mk ha
    have HB:=Aside0.mk Q_HB
    have HO114:=Aside0.mk (Q_HO114 (hon 0 (by kernel_rfl)))
    have HA_HO114:=Aside0.mk (Q_HA_HO114 (hon 0 (by kernel_rfl)))
    obtain ⟨c_,hv_⟩:=HA_HO114.out
    have hF_:=HO114.out
    rw [hv_] at hF_
    obtain ⟨ad_,ea_,hx_⟩:=Kd.at_string (Kd.R_reads' hF_).2.2 a1 (of_eq_true pi115) (of_eq_true qi115)
    cases ea_
    refine value_ (w1:=w') (v:=.string (rdOf ByteArray.empty t112 a1)) (by rfl) rfl ?_ ?_
    ·go_simp
     (try simp only [i64_w])
     try rfl
    refine hK.out _ _ ⟨v113,adz_v113,v117,adz_v117,m2_,m7_,q113_,Q_HB,Q_HO114,Q_HA_HO114,Q_HO118,Q_HA_HO118,Q_X2_,Q_X7_⟩
   refine steps_cons ?_ ?_
   ·rintro b a w' ⟨v113,adz_v113,v117,adz_v117,m2_,m7_,ha,Q_HB,Q_HO114,Q_HA_HO114,Q_HO118,Q_HA_HO118,Q_X2_,Q_X7_⟩ hb_ hon hoff
    refine ⟨_,rfl,fun K hK => ?_⟩
    have e12:a.tmps[12]? = some (.string (rdOf ByteArray.empty t112 a1)):=by rw [ha];exact putSel_on (e:=(3,12,.string (rdOf ByteArray.empty t112 a1))) 2 rfl rfl (hon 3 (by kernel_rfl)) rfl
    replace ha:=Aside0.mk ha
    have HB:=Aside0.mk Q_HB
    have HO114:=Aside0.mk (Q_HO114 (hon 0 (by kernel_rfl)))
    have HA_HO114:=Aside0.mk (Q_HA_HO114 (hon 0 (by kernel_rfl)))
    refine value_ (w1:=w') (v:=.string ((rdOf ByteArray.empty t112 a1) ++ (⟨#[32]⟩:ByteArray))) (by rfl) rfl ?_ ?_
    ·go_simp
     (try simp only [i64_w])
     try rfl
    refine hK.out _ _ ⟨v113,adz_v113,v117,adz_v117,m2_,m7_,q114_,Q_HB,Q_HO114,Q_HA_HO114,Q_HO118,Q_HA_HO118,Q_X2_,Q_X7_⟩
   refine steps_cons ?_ ?_
   ·rintro b a w' ⟨v113,adz_v113,v117,adz_v117,m2_,m7_,ha,Q_HB,Q_HO114,Q_HA_HO114,Q_HO118,Q_HA_HO118,Q_X2_,Q_X7_⟩ hb_ hon hoff
    refine ⟨_,rfl,fun K hK => ?_⟩
    replace ha:=Aside0.mk ha
    have HB:=Aside0.mk Q_HB
    have HO114:=Aside0.mk (Q_HO114 (hon 0 (by kernel_rfl)))
    have HA_HO114:=Aside0.mk (Q_HA_HO114 (hon 0 (by kernel_rfl)))
    obtain ⟨co17,eo17⟩:=HA_HO114.out
    clear HA_HO114
    subst eo17
    refine goes_ Tryz.func96 (by kernel_rfl) rfl #[] (by rfl) rfl rfl (by first | (simp only [List.map_toArray,List.map_cons,List.map_nil,Act.eval,Array.getD_eq_getD_getElem?,Option.getD_some];done) | (simp only [List.map_toArray,List.map_cons,List.map_nil,Act.eval,Array.getD_eq_getD_getElem?,Option.getD_some];rfl)) ?_
    with_reducible refine (impl_regs.calls  t116 _ A9.out).mono ?_
    rintro e w18 ⟨v117,rfl,ho0,hb⟩
    refine ⟨_,rfl,?_⟩
    have n0_:=Aside0.mk (Kd.R_elder' q94_ (Kd.R_base ho0) hb)
    have n1_:=Aside0.mk (Kd.R_lower (Kd.R_new' ho0 (Kd.R_lt q94_)) (below_size q72_))
    have n2_:=Aside0.mk (below_step q72_ hb)
    clear HO114
    clear HB
    have HO114:=n0_
    have HO118:=n1_
    have HB:=n2_
    clear n0_ n1_ n2_
    (try clear hb)
    (try clear hb2)
    (try clear hk)
    (try clear hi)
    (try clear ho0)
    obtain ⟨Ao19,co19,eo19⟩:=Kd.R_slice HO118.out
    subst eo19
    obtain ⟨ado19,fo19,_⟩:=Kd.at_string (Kd.R_reads' HO118.out).2.2 0 (by decide) (by have h1_:=of_eq_true pi119;have h2_:=of_eq_true qi119;omega)
    cases fo19
    refine hK.out _ _ ⟨.slice (some adz_v113) t112.length co17,adz_v113,.slice (some ado19) t116.length co19,ado19,m2_,m7_,q115_,q72_,fun _ => (by (with_reducible repeat (first | apply Kd.R_alloc | apply Kd.R_drewN | apply Kd.R_drew));exact Kd.R_mono HO114.out (fun _ hk => by first | exact hk.2 | trivial)),fun _ => ⟨_,rfl⟩,fun _ => (by (with_reducible repeat (first | apply Kd.R_alloc | apply Kd.R_drewN | apply Kd.R_drew));exact Kd.R_mono HO118.out (fun _ hk => by first | exact hk.2 | trivial)),fun _ => ⟨_,rfl⟩,Q_X2_,fun h0_ => absurd ((hoff 7 (by kernel_rfl)).symm.trans h0_) (by decide)⟩
   refine steps_cons ?_ ?_
   ·rintro b a w' ⟨v113,adz_v113,v117,adz_v117,m2_,m7_,ha,Q_HB,Q_HO114,Q_HA_HO114,Q_HO118,Q_HA_HO118,Q_X2_,Q_X7_⟩ hb_ hon hoff
    refine ⟨_,rfl,fun K hK => ?_⟩
    have e14:a.tmps[14]? = some (v117):=by rw [ha];exact putSel_on (e:=(5,14,v117)) 4 rfl rfl (hon 5 (by kernel_rfl)) rfl
    have e15:a.tmps[15]? = some (.int .i64 a2):=by rw [ha];exact (putSel_off rfl).trans rfl
    replace ha:=Aside0.mk ha
    have HB:=Aside0.mk Q_HB
    have HO114:=Aside0.mk (Q_HO114 (hon 0 (by kernel_rfl)))
    have HA_HO114:=Aside0.mk (Q_HA_HO114 (hon 0 (by kernel_rfl)))
    have HO118:=Aside0.mk (Q_HO118 (hon 5 (by kernel_rfl)))
    have HA_HO118:=Aside0.mk (Q_HA_HO118 (hon 5 (by kernel_rfl)))
    obtain ⟨c_,hv_⟩:=HA_HO118.out
    rw [hv_] at e14
    refine value_ (w1:=w') (v:=.pointer (some (adz_v117.add (a2).toNat))) (by rfl) rfl ?_ ?_
    ·go_simp
     (try simp only [i64_w])
     try rfl
    refine hK.out _ _ ⟨v113,adz_v113,v117,adz_v117,m2_,(.pointer (some (adz_v117.add (a2).toNat))),q116_,Q_HB,Q_HO114,Q_HA_HO114,Q_HO118,Q_HA_HO118,Q_X2_,fun _ => rfl⟩
   refine steps_cons ?_ ?_
   ·rintro b a w' ⟨v113,adz_v113,v117,adz_v117,m2_,m7_,ha,Q_HB,Q_HO114,Q_HA_HO114,Q_HO118,Q_HA_HO118,Q_X2_,Q_X7_⟩ hb_ hon hoff
    refine ⟨_,rfl,fun K hK => ?_⟩
    have e16:a.tmps[16]? = some (m7_):=by rw [ha];exact putSel_on (e:=(7,16,m7_)) 5 rfl rfl (hon 7 (by kernel_rfl)) rfl
    rw [Q_X7_ (hon 7 (by kernel_rfl))] at e16
    replace ha:=Aside0.mk ha
    have HB:=Aside0.mk Q_HB
    have HO114:=Aside0.mk (Q_HO114 (hon 0 (by kernel_rfl)))
    have HA_HO114:=Aside0.mk (Q_HA_HO114 (hon 0 (by kernel_rfl)))
    have HO118:=Aside0.mk (Q_HO118 (hon 5 (by kernel_rfl)))
    have HA_HO118:=Aside0.mk (Q_HA_HO118 (hon 5 (by kernel_rfl)))
    obtain ⟨c_,hv_⟩:=HA_HO118.out
    have hF_:=HO118.out
    rw [hv_] at hF_
    obtain ⟨ad_,ea_,hx_⟩:=Kd.at_string (Kd.R_reads' hF_).2.2 a2 (of_eq_true pi119) (of_eq_true qi119)
    cases ea_
    refine value_ (w1:=w') (v:=.string (rdOf ByteArray.empty t116 a2)) (by rfl) rfl ?_ ?_
    ·go_simp
     (try simp only [i64_w])
     try rfl
    refine hK.out _ _ ⟨v113,adz_v113,v117,adz_v117,m2_,m7_,q117_,Q_HB,Q_HO114,Q_HA_HO114,Q_HO118,Q_HA_HO118,Q_X2_,Q_X7_⟩
   refine steps_cons ?_ ?_
   ·rintro b a w' ⟨v113,adz_v113,v117,adz_v117,m2_,m7_,ha,Q_HB,Q_HO114,Q_HA_HO114,Q_HO118,Q_HA_HO118,Q_X2_,Q_X7_⟩ hb_ hon hoff
    refine ⟨_,rfl,fun K hK => ?_⟩
    have e13:a.tmps[13]? = some (.string ((rdOf ByteArray.empty t112 a1) ++ (⟨#[32]⟩:ByteArray))):=by rw [ha];exact putSel_on (e:=(4,13,.string ((rdOf ByteArray.empty t112 a1) ++ (⟨#[32]⟩:ByteArray)))) 3 rfl rfl (hon 4 (by kernel_rfl)) rfl
    have e17:a.tmps[17]? = some (.string (rdOf ByteArray.empty t116 a2)):=by rw [ha];exact putSel_on (e:=(8,17,.string (rdOf ByteArray.empty t116 a2))) 6 rfl rfl (hon 8 (by kernel_rfl)) rfl
    replace ha:=Aside0.mk ha
    have HB:=Aside0.mk Q_HB
    have HO114:=Aside0.mk (Q_HO114 (hon 0 (by kernel_rfl)))
    have HA_HO114:=Aside0.mk (Q_HA_HO114 (hon 0 (by kernel_rfl)))
    have HO118:=Aside0.mk (Q_HO118 (hon 5 (by kernel_rfl)))
    have HA_HO118:=Aside0.mk (Q_HA_HO118 (hon 5 (by kernel_rfl)))
    refine value_ (w1:=w') (v:=.string (((rdOf ByteArray.empty t112 a1) ++ (⟨#[32]⟩:ByteArray)) ++ (rdOf ByteArray.empty t116 a2))) (by rfl) rfl ?_ ?_
    ·go_simp
     (try simp only [i64_w])
     try rfl
    refine hK.out _ _ ⟨v113,adz_v113,v117,adz_v117,m2_,m7_,q118_,Q_HB,Q_HO114,Q_HA_HO114,Q_HO118,Q_HA_HO118,Q_X2_,Q_X7_⟩
   refine steps_cons ?_ ?_
   ·rintro b a w' ⟨v113,adz_v113,v117,adz_v117,m2_,m7_,ha,Q_HB,Q_HO114,Q_HA_HO114,Q_HO118,Q_HA_HO118,Q_X2_,Q_X7_⟩ hb_ hon hoff
    refine ⟨_,rfl,fun K hK => ?_⟩
    have e18:a.tmps[18]? = some (.string (((rdOf ByteArray.empty t112 a1) ++ (⟨#[32]⟩:ByteArray)) ++ (rdOf ByteArray.empty t116 a2))):=by rw [ha];exact putSel_on (e:=(9,18,.string (((rdOf ByteArray.empty t112 a1) ++ (⟨#[32]⟩:ByteArray)) ++ (rdOf ByteArray.empty t116 a2)))) 7 rfl rfl (hon 9 (by kernel_rfl)) rfl
    replace ha:=Aside0.mk ha
    have HB:=Aside0.mk Q_HB
    have HO114:=Aside0.mk (Q_HO114 (hon 0 (by kernel_rfl)))
    have HA_HO114:=Aside0.mk (Q_HA_HO114 (hon 0 (by kernel_rfl)))
    have HO118:=Aside0.mk (Q_HO118 (hon 5 (by kernel_rfl)))
    have HA_HO118:=Aside0.mk (Q_HA_HO118 (hon 5 (by kernel_rfl)))
    refine value_ (w1:=w') (v:=.string (((rdOf ByteArray.empty t112 a1) ++ (⟨#[32]⟩:ByteArray)) ++ (rdOf ByteArray.empty t116 a2))) (by rfl) rfl ?_ ?_
    ·go_simp
     (try simp only [i64_w])
     try rfl
    refine hK.out _ _ ⟨v113,adz_v113,v117,adz_v117,m2_,m7_,q119_,Q_HB,Q_HO114,Q_HA_HO114,Q_HO118,Q_HA_HO118,Q_X2_,Q_X7_⟩
   exact steps_nil
  rintro b a w18 hall ⟨v113,adz_v113,v117,adz_v117,m2_,m7_,ha,Q_HB,Q_HO114,Q_HA_HO114,Q_HO118,Q_HA_HO118,Q_X2_,Q_X7_⟩
  clear HB
  have hb0_:=hall 0 (by kernel_rfl)
  have hb2_:=hall 2 (by kernel_rfl)
  have hb3_:=hall 3 (by kernel_rfl)
  have hb4_:=hall 4 (by kernel_rfl)
  have hb5_:=hall 5 (by kernel_rfl)
  have hb7_:=hall 7 (by kernel_rfl)
  have hb8_:=hall 8 (by kernel_rfl)
  have hb9_:=hall 9 (by kernel_rfl)
  have hb10_:=hall 10 (by kernel_rfl)
  subst ha
  obtain rfl:=Q_X2_ hb2_
  obtain rfl:=Q_X7_ hb7_
  simp only [putSel,hb0_,hb2_,hb3_,hb4_,hb5_,hb7_,hb8_,hb9_,hb10_,if_true,Act.put,List.setIfInBounds_toArray,List.set_cons_zero,List.set_cons_succ]
  have HB:=Aside0.mk Q_HB
  clear Q_HB
  have HO114:=Aside0.mk (Q_HO114 hb0_)
  clear Q_HO114
  have HA_HO114:=Aside0.mk (Q_HA_HO114 hb0_)
  clear Q_HA_HO114
  have HO118:=Aside0.mk (Q_HO118 hb5_)
  clear Q_HO118
  have HA_HO118:=Aside0.mk (Q_HA_HO118 hb5_)
  clear Q_HA_HO118
  clear hall hb0_ hb2_ hb3_ hb4_ hb5_ hb7_ hb8_ hb9_ hb10_
  obtain ⟨co19,eo19⟩:=HA_HO114.out
  clear HA_HO114
  subst eo19
  obtain ⟨co20,eo20⟩:=HA_HO118.out
  clear HA_HO118
  subst eo20
  try go_wp2
  go_ret
  exact ⟨q74_,q72_⟩
 rw [if_neg c4] at H
 have c4b0:(a0 == 0) = false:=beq_eq_false_iff_ne.mpr c4
 have c4b1:(a0 != 0) = true:=bne_iff_ne.mpr c4
 replace H:=Option.bind_eq_some_iff.mp H
 obtain ⟨t120,A210,H⟩:=H
 have A21:=Aside0.mk A210
 clear A210
 obtain ⟨ji22,hji22⟩:∃ j_:Int,(wrap64 (a0 - 1)) = j_:=⟨_,rfl⟩
 (first | rewrite [hji22] at H | simp only [hji22] at H)
 (try rw [hji22] at A21)
 have hji22w:(IntKind.i64.wrap (a0 - 1)) = ji22:=(i64_w _).trans hji22
 by_cases c23:0 ≤ (ji22)
 rotate_left
 ·rw [if_neg c23] at H
  exact absurd H (by simp)
 rw [if_pos c23] at H
 have c23b0:=decide_eq_true c23
 clear c23
 by_cases c24:(ji22) < (t120.length:Int)
 rotate_left
 ·rw [if_neg c24] at H
  exact absurd H (by simp)
 rw [if_pos c24] at H
 have c24b0:=decide_eq_true c24
 clear c24
 by_cases c25:(rdOf ByteArray.empty t120 (ji22)).size + 1 ≤ 9223372036854775807
 rotate_left
 ·rw [if_neg c25] at H
  exact absurd H (by simp)
 rw [if_pos c25] at H
 have c25b0:=eq_true c25
 have c25b1:=decide_eq_true c25
 try have c25b2:(9223372036854775807 < (rdOf ByteArray.empty t120 (ji22)).size + 1) = False:=eq_false (Nat.not_lt.2 c25)
 replace H:=Option.bind_eq_some_iff.mp H
 obtain ⟨t124,A260,H⟩:=H
 have A26:=Aside0.mk A260
 clear A260
 by_cases c27:((rdOf ByteArray.empty t120 (ji22)) ++ (⟨#[32]⟩:ByteArray)).size + t124.size ≤ 9223372036854775807
 rotate_left
 ·rw [if_neg c27] at H
  exact absurd H (by simp)
 rw [if_pos c27] at H
 have c27b0:=eq_true c27
 (try (have c27b0e:=c27b0;simp only [ByteArray.size_append,ByteArray.size_extract,Nat.min_self,Nat.sub_zero,show (⟨#[32]⟩:ByteArray).size = 1 from rfl] at c27b0e))
 have c27b1:=decide_eq_true c27
 (try (have c27b1e:=c27b1;simp only [ByteArray.size_append,ByteArray.size_extract,Nat.min_self,Nat.sub_zero,show (⟨#[32]⟩:ByteArray).size = 1 from rfl] at c27b1e))
 try have c27b2:(9223372036854775807 < ((rdOf ByteArray.empty t120 (ji22)) ++ (⟨#[32]⟩:ByteArray)).size + t124.size) = False:=eq_false (Nat.not_lt.2 c27)
 (try (have c27b2e:=c27b2;simp only [ByteArray.size_append,ByteArray.size_extract,Nat.min_self,Nat.sub_zero,show (⟨#[32]⟩:ByteArray).size = 1 from rfl] at c27b2e))
 by_cases c28:(((rdOf ByteArray.empty t120 (ji22)) ++ (⟨#[32]⟩:ByteArray)) ++ t124).size + 1 ≤ 9223372036854775807
 rotate_left
 ·rw [if_neg c28] at H
  exact absurd H (by simp)
 rw [if_pos c28] at H
 have c28b0:=eq_true c28
 (try (have c28b0e:=c28b0;simp only [ByteArray.size_append,ByteArray.size_extract,Nat.min_self,Nat.sub_zero,show (⟨#[32]⟩:ByteArray).size = 1 from rfl] at c28b0e))
 have c28b1:=decide_eq_true c28
 (try (have c28b1e:=c28b1;simp only [ByteArray.size_append,ByteArray.size_extract,Nat.min_self,Nat.sub_zero,show (⟨#[32]⟩:ByteArray).size = 1 from rfl] at c28b1e))
 try have c28b2:(9223372036854775807 < (((rdOf ByteArray.empty t120 (ji22)) ++ (⟨#[32]⟩:ByteArray)) ++ t124).size + 1) = False:=eq_false (Nat.not_lt.2 c28)
 (try (have c28b2e:=c28b2;simp only [ByteArray.size_append,ByteArray.size_extract,Nat.min_self,Nat.sub_zero,show (⟨#[32]⟩:ByteArray).size = 1 from rfl] at c28b2e))
 replace H:=Option.bind_eq_some_iff.mp H
 obtain ⟨t125,A290,H⟩:=H
 have A29:=Aside0.mk A290
 clear A290
 by_cases c30:0 ≤ a2
 rotate_left
 ·rw [if_neg c30] at H
  exact absurd H (by simp)
 rw [if_pos c30] at H
 have c30b0:=decide_eq_true c30
 clear c30
 by_cases c31:a2 < (t125.length:Int)
 rotate_left
 ·rw [if_neg c31] at H
  exact absurd H (by simp)
 rw [if_pos c31] at H
 have c31b0:=decide_eq_true c31
 clear c31
 by_cases c32:((((rdOf ByteArray.empty t120 (ji22)) ++ (⟨#[32]⟩:ByteArray)) ++ t124) ++ (⟨#[44]⟩:ByteArray)).size + (rdOf ByteArray.empty t125 a2).size ≤ 9223372036854775807
 rotate_left
 ·rw [if_neg c32] at H
  exact absurd H (by simp)
 rw [if_pos c32] at H
 have c32b0:=eq_true c32
 (try (have c32b0e:=c32b0;simp only [ByteArray.size_append,ByteArray.size_extract,Nat.min_self,Nat.sub_zero,show (⟨#[32]⟩:ByteArray).size = 1 from rfl,show (⟨#[44]⟩:ByteArray).size = 1 from rfl] at c32b0e))
 have c32b1:=decide_eq_true c32
 (try (have c32b1e:=c32b1;simp only [ByteArray.size_append,ByteArray.size_extract,Nat.min_self,Nat.sub_zero,show (⟨#[32]⟩:ByteArray).size = 1 from rfl,show (⟨#[44]⟩:ByteArray).size = 1 from rfl] at c32b1e))
 try have c32b2:(9223372036854775807 < ((((rdOf ByteArray.empty t120 (ji22)) ++ (⟨#[32]⟩:ByteArray)) ++ t124) ++ (⟨#[44]⟩:ByteArray)).size + (rdOf ByteArray.empty t125 a2).size) = False:=eq_false (Nat.not_lt.2 c32)
 (try (have c32b2e:=c32b2;simp only [ByteArray.size_append,ByteArray.size_extract,Nat.min_self,Nat.sub_zero,show (⟨#[32]⟩:ByteArray).size = 1 from rfl,show (⟨#[44]⟩:ByteArray).size = 1 from rfl] at c32b2e))
 obtain rfl:=Option.some.inj H
 go_enter Tryz.func92,Tryz.ntmps92
 try go_wp2
 have pi123:(0 ≤ ((ji22):Int)) = True:=eq_true (of_decide_eq_true q109_)
 have qi123:((ji22) < (t120.length:Int)) = True:=eq_true (of_decide_eq_true q109_)
 have pi128:(0 ≤ (a2:Int)) = True:=eq_true (of_decide_eq_true q109_)
 have qi128:(a2 < (t125.length:Int)) = True:=eq_true (of_decide_eq_true q109_)
 have n0_:=Aside0.mk (below_drew1 HB.out)
 clear HB
 have HB:=n0_
 clear n0_
 refine start_ (n:=16) (S:=fun w' => True) (ds:=[]) #[false,false,false,false,false,false,false,false,false,false,false,false,false,false,false,false] (by kernel_rfl) rfl rfl trivial (fun hHeld => ?_);refine with_tabW impl_prefixed.tab3 impl_prefixed.bits3 (fun HT_ HW_ => ?_)
 generalize w.drew = w33 at HB hHeld ⊢
 refine pure_ (i:=1) (N:=some 20) (v:=?_) (a':=?_) #[false,true,false,false,false,false,false,false,false,false,false,false,false,false,false,false] rfl rfl (any_of HT_.out (by kernel_rfl)) (fun _ _ _ h => h) (Or.inl ⟨by rfl,?_⟩) ?_ ?_
 rotate_left
 ·intro w'
  go_simp
  with_reducible rfl
 rotate_left
 ·simp only [Act.put,List.setIfInBounds_toArray,List.set_cons_zero,List.set_cons_succ,i64_w,i32_w]
  rfl
 refine pure_ (i:=6) (N:=some 25) (v:=?_) (a':=?_) #[false,true,false,false,false,false,true,false,false,false,false,false,false,false,false,false] rfl rfl (any_of HT_.out (by kernel_rfl)) (fun _ _ _ h => h) (Or.inl ⟨by rfl,?_⟩) ?_ ?_
 rotate_left
 ·intro w'
  go_simp
  with_reducible rfl
 rotate_left
 ·simp only [Act.put,List.setIfInBounds_toArray,List.set_cons_zero,List.set_cons_succ,i64_w,i32_w]
  rfl
 refine pure_ (i:=11) (N:=some 30) (v:=?_) (a':=?_) #[false,true,false,false,false,false,true,false,false,false,false,true,false,false,false,false] rfl rfl (any_of HT_.out (by kernel_rfl)) (fun _ _ _ h => h) (Or.inl ⟨by rfl,?_⟩) ?_ ?_
 rotate_left
 ·intro w'
  go_simp
  with_reducible rfl
 rotate_left
 ·simp only [Act.put,List.setIfInBounds_toArray,List.set_cons_zero,List.set_cons_succ,i64_w,i32_w]
  rfl
 refine inv_at [0,2,3,4,5,7,8,9,10,12,13,14,15] (fun a0_ b a w' => ∃ (v121:Value) (adz_v121:Addr) (v126:Value) (adz_v126:Addr) (m3_:Value) (m12_:Value),a = putSel a0_ b [(0,19,v121),(2,21,.int .i64 ji22),(3,22,m3_),(4,23,.string (rdOf ByteArray.empty t120 (ji22))),(5,24,.string ((rdOf ByteArray.empty t120 (ji22)) ++ (⟨#[32]⟩:ByteArray))),(7,26,.string t124),(8,27,.string (((rdOf ByteArray.empty t120 (ji22)) ++ (⟨#[32]⟩:ByteArray)) ++ t124)),(9,28,.string ((((rdOf ByteArray.empty t120 (ji22)) ++ (⟨#[32]⟩:ByteArray)) ++ t124) ++ (⟨#[44]⟩:ByteArray))),(10,29,v126),(12,31,m12_),(13,32,.string (rdOf ByteArray.empty t125 a2)),(14,33,.string (((((rdOf ByteArray.empty t120 (ji22)) ++ (⟨#[32]⟩:ByteArray)) ++ t124) ++ (⟨#[44]⟩:ByteArray)) ++ (rdOf ByteArray.empty t125 a2))),(15,6,.string (((((rdOf ByteArray.empty t120 (ji22)) ++ (⟨#[32]⟩:ByteArray)) ++ t124) ++ (⟨#[44]⟩:ByteArray)) ++ (rdOf ByteArray.empty t125 a2)))] ∧ (Below w.heap.size w w') ∧ (b 0 = true → Kd.R Kd.string 9 w' w.heap.size (fun _ => True) v121 t120) ∧ (b 0 = true → ∃ c_,(v121:Value) = .slice (some adz_v121) t120.length c_) ∧ (b 10 = true → Kd.R Kd.string 9 w' w.heap.size (fun _ => True) v126 t125) ∧ (b 10 = true → ∃ c_,(v126:Value) = .slice (some adz_v126) t125.length c_) ∧ (b 3 = true → (m3_:Value) = .pointer (some (adz_v121.add ((ji22)).toNat))) ∧ (b 12 = true → (m12_:Value) = .pointer (some (adz_v126.add (a2).toNat)))) HT_.out HW_.out (by kernel_rfl) (by kernel_rfl) ?_ ?_ ?_
 ·exact ⟨.bool false,⟨0,0,none⟩,.bool false,⟨0,0,none⟩,.bool false,.bool false,q110_,HB.out,fun h_ => absurd h_ (by decide),fun h_ => absurd h_ (by decide),fun h_ => absurd h_ (by decide),fun h_ => absurd h_ (by decide),fun h_ => absurd h_ (by decide),fun h_ => absurd h_ (by decide)⟩
 ·skip
  clear HB
  refine steps_cons ?_ ?_
  ·rintro b a w' ⟨v121,adz_v121,v126,adz_v126,m3_,m12_,ha,Q_HB,Q_HO122,Q_HA_HO122,Q_HO127,Q_HA_HO127,Q_X3_,Q_X12_⟩ hb_ hon hoff
   refine ⟨_,rfl,fun K hK => ?_⟩
   replace ha:=Aside0.mk ha
   have HB:=Aside0.mk Q_HB
   refine goes_ Tryz.func97 (by kernel_rfl) rfl #[.string (⟨#[98,105,116,32,114,101,115,32,115,101,116]⟩:ByteArray)] (by rfl) rfl rfl (by first | (simp only [List.map_toArray,List.map_cons,List.map_nil,Act.eval,Array.getD_eq_getD_getElem?,Option.getD_some];done) | (simp only [List.map_toArray,List.map_cons,List.map_nil,Act.eval,Array.getD_eq_getD_getElem?,Option.getD_some];rfl)) ?_
   with_reducible refine (impl_names.calls (⟨#[98,105,116,32,114,101,115,32,115,101,116]⟩:ByteArray) t120 _ A21.out).mono ?_
   rintro e w34 ⟨v121,rfl,ho0,hb⟩
   refine ⟨_,rfl,?_⟩
   have n0_:=Aside0.mk (Kd.R_lower ho0 (below_size q72_))
   have n1_:=Aside0.mk (below_step q72_ hb)
   clear HB
   have HO122:=n0_
   have HB:=n1_
   clear n0_ n1_
   (try clear hb)
   (try clear hb2)
   (try clear hk)
   (try clear hi)
   (try clear ho0)
   obtain ⟨Ao35,co35,eo35⟩:=Kd.R_slice HO122.out
   subst eo35
   obtain ⟨ado35,fo35,_⟩:=Kd.at_string (Kd.R_reads' HO122.out).2.2 0 (by decide) (by have h1_:=of_eq_true pi123;have h2_:=of_eq_true qi123;omega)
   cases fo35
   refine hK.out _ _ ⟨.slice (some ado35) t120.length co35,ado35,v126,adz_v126,m3_,m12_,q111_,q72_,fun _ => q95_,fun _ => ⟨_,rfl⟩,fun h0_ => absurd ((hoff 10 (by kernel_rfl)).symm.trans h0_) (by decide),fun h0_ => absurd ((hoff 10 (by kernel_rfl)).symm.trans h0_) (by decide),fun h0_ => absurd ((hoff 3 (by kernel_rfl)).symm.trans h0_) (by decide),fun h0_ => absurd ((hoff 12 (by kernel_rfl)).symm.trans h0_) (by decide)⟩
  refine steps_cons ?_ ?_
  ·rintro b a w' ⟨v121,adz_v121,v126,adz_v126,m3_,m12_,ha,Q_HB,Q_HO122,Q_HA_HO122,Q_HO127,Q_HA_HO127,Q_X3_,Q_X12_⟩ hb_ hon hoff
   refine ⟨_,rfl,fun K hK => ?_⟩
   have e20:a.tmps[20]? = some (.int .i64 a0):=by rw [ha];exact (putSel_off rfl).trans rfl
   replace ha:=Aside0.mk ha
   have HB:=Aside0.mk Q_HB
   refine value_ (w1:=w') (v:=.int .i64 ji22) (by rfl) rfl ?_ ?_
   ·go_simp
    (try simp only [i64_w])
    try rfl
   refine hK.out _ _ ⟨v121,adz_v121,v126,adz_v126,m3_,m12_,q112_,Q_HB,Q_HO122,Q_HA_HO122,Q_HO127,Q_HA_HO127,fun h0_ => absurd ((hoff 3 (by kernel_rfl)).symm.trans h0_) (by decide),Q_X12_⟩
  refine steps_cons ?_ ?_
  ·rintro b a w' ⟨v121,adz_v121,v126,adz_v126,m3_,m12_,ha,Q_HB,Q_HO122,Q_HA_HO122,Q_HO127,Q_HA_HO127,Q_X3_,Q_X12_⟩ hb_ hon hoff
   refine ⟨_,rfl,fun K hK => ?_⟩
   have e19:a.tmps[19]? = some (v121):=by rw [ha];exact putSel_on (e:=(0,19,v121)) 0 rfl rfl (hon 0 (by kernel_rfl)) rfl
   have e21:a.tmps[21]? = some (.int .i64 ji22):=by rw [ha];exact putSel_on (e:=(2,21,.int .i64 ji22)) 1 rfl rfl (hon 2 (by kernel_rfl)) rfl
   replace ha:=Aside0.mk ha
   have HB:=Aside0.mk Q_HB
   have HO122:=Aside0.mk (Q_HO122 (hon 0 (by kernel_rfl)))
   have HA_HO122:=Aside0.mk (Q_HA_HO122 (hon 0 (by kernel_rfl)))
   obtain ⟨c_,hv_⟩:=HA_HO122.out
   rw [hv_] at e19
   refine value_ (w1:=w') (v:=.pointer (some (adz_v121.add ((ji22)).toNat))) (by rfl) rfl ?_ ?_
   ·go_simp
    (try simp only [i64_w])
    try rfl
   refine hK.out _ _ ⟨v121,adz_v121,v126,adz_v126,(.pointer (some (adz_v121.add ((ji22)).toNat))),m12_,q113_,Q_HB,Q_HO122,Q_HA_HO122,Q_HO127,Q_HA_HO127,fun _ => rfl,Q_X12_⟩
  refine steps_cons ?_ ?_
  ·rintro b a w' ⟨v121,adz_v121,v126,adz_v126,m3_,m12_,ha,Q_HB,Q_HO122,Q_HA_HO122,Q_HO127,Q_HA_HO127,Q_X3_,Q_X12_⟩ hb_ hon hoff
   refine ⟨_,rfl,fun K hK => ?_⟩
   have e22:a.tmps[22]? = some (m3_):=by rw [ha];exact putSel_on (e:=(3,22,m3_)) 2 rfl rfl (hon 3 (by kernel_rfl)) rfl
   rw [Q_X3_ (hon 3 (by kernel_rfl))] at e22
   replace ha:=Aside0.mk ha
   have HB:=Aside0.mk Q_HB
   have HO122:=Aside0.mk (Q_HO122 (hon 0 (by kernel_rfl)))
   have HA_HO122:=Aside0.mk (Q_HA_HO122 (hon 0 (by kernel_rfl)))
   obtain ⟨c_,hv_⟩:=HA_HO122.out
   have hF_:=HO122.out
   rw [hv_] at hF_
   obtain ⟨ad_,ea_,hx_⟩:=Kd.at_string (Kd.R_reads' hF_).2.2 (ji22) (of_eq_true pi123) (of_eq_true qi123)
   cases ea_
   refine value_ (w1:=w') (v:=.string (rdOf ByteArray.empty t120 (ji22))) (by rfl) rfl ?_ ?_
   ·go_simp
    (try simp only [i64_w])
    try rfl
   refine hK.out _ _ ⟨v121,adz_v121,v126,adz_v126,m3_,m12_,q114_,Q_HB,Q_HO122,Q_HA_HO122,Q_HO127,Q_HA_HO127,Q_X3_,Q_X12_⟩
  refine steps_cons ?_ ?_
  ·rintro b a w' ⟨v121,adz_v121,v126,adz_v126,m3_,m12_,ha,Q_HB,Q_HO122,Q_HA_HO122,Q_HO127,Q_HA_HO127,Q_X3_,Q_X12_⟩ hb_ hon hoff
   refine ⟨_,rfl,fun K hK => ?_⟩
   have e23:a.tmps[23]? = some (.string (rdOf ByteArray.empty t120 (ji22))):=by rw [ha];exact putSel_on (e:=(4,23,.string (rdOf ByteArray.empty t120 (ji22)))) 3 rfl rfl (hon 4 (by kernel_rfl)) rfl
   replace ha:=Aside0.mk ha
   have HB:=Aside0.mk Q_HB
   have HO122:=Aside0.mk (Q_HO122 (hon 0 (by kernel_rfl)))
   have HA_HO122:=Aside0.mk (Q_HA_HO122 (hon 0 (by kernel_rfl)))
   refine value_ (w1:=w') (v:=.string ((rdOf ByteArray.empty t120 (ji22)) ++ (⟨#[32]⟩:ByteArray))) (by rfl) rfl ?_ ?_
   ·go_simp
    (try simp only [i64_w])
    try rfl
   refine hK.out _ _ ⟨v121,adz_v121,v126,adz_v126,m3_,m12_,q115_,Q_HB,Q_HO122,Q_HA_HO122,Q_HO127,Q_HA_HO127,Q_X3_,Q_X12_⟩
  refine steps_cons ?_ ?_
  ·rintro b a w' ⟨v121,adz_v121,v126,adz_v126,m3_,m12_,ha,Q_HB,Q_HO122,Q_HA_HO122,Q_HO127,Q_HA_HO127,Q_X3_,Q_X12_⟩ hb_ hon hoff
   refine ⟨_,rfl,fun K hK => ?_⟩
   have e25:a.tmps[25]? = some (.int .i64 a1):=by rw [ha];exact (putSel_off rfl).trans rfl
   replace ha:=Aside0.mk ha
   have HB:=Aside0.mk Q_HB
   have HO122:=Aside0.mk (Q_HO122 (hon 0 (by kernel_rfl)))
   have HA_HO122:=Aside0.mk (Q_HA_HO122 (hon 0 (by kernel_rfl)))
   obtain ⟨co37,eo37⟩:=HA_HO122.out
   clear HA_HO122
   subst eo37
   refine goes_ Tryz.func89 (by kernel_rfl) rfl #[.int .i64 a1] (by rfl) rfl rfl (by first | (simp only [List.map_toArray,List.map_cons,List.map_nil,Act.eval,Array.getD_eq_getD_getElem?,Option.getD_some,e25];done) | (simp only [List.map_toArray,List.map_cons,List.map_nil,Act.eval,Array.getD_eq_getD_getElem?,Option.getD_some,e25];rfl)) ?_
   with_reducible refine (impl_decimal.calls a1 t124 _ A26.out).mono ?_
   rintro e w38 ⟨rfl,hb⟩
   refine ⟨_,rfl,?_⟩
   have n0_:=Aside0.mk (Kd.R_below q95_ hb)
   have n1_:=Aside0.mk (below_step q72_ hb)
   clear HO122
   clear HB
   have HO122:=n0_
   have HB:=n1_
   clear n0_ n1_
   (try clear hb)
   (try clear hb2)
   (try clear hk)
   (try clear hi)
   refine hK.out _ _ ⟨.slice (some adz_v121) t120.length co37,adz_v121,v126,adz_v126,m3_,m12_,q116_,q72_,fun _ => q95_,fun _ => ⟨_,rfl⟩,fun h0_ => absurd ((hoff 10 (by kernel_rfl)).symm.trans h0_) (by decide),fun h0_ => absurd ((hoff 10 (by kernel_rfl)).symm.trans h0_) (by decide),Q_X3_,fun h0_ => absurd ((hoff 12 (by kernel_rfl)).symm.trans h0_) (by decide)⟩
  refine steps_cons ?_ ?_
  ·rintro b a w' ⟨v121,adz_v121,v126,adz_v126,m3_,m12_,ha,Q_HB,Q_HO122,Q_HA_HO122,Q_HO127,Q_HA_HO127,Q_X3_,Q_X12_⟩ hb_ hon hoff
   refine ⟨_,rfl,fun K hK => ?_⟩
   have e24:a.tmps[24]? = some (.string ((rdOf ByteArray.empty t120 (ji22)) ++ (⟨#[32]⟩:ByteArray))):=by rw [ha];exact putSel_on (e:=(5,24,.string ((rdOf ByteArray.empty t120 (ji22)) ++ (⟨#[32]⟩:ByteArray)))) 4 rfl rfl (hon 5 (by kernel_rfl)) rfl
   have e26:a.tmps[26]? = some (.string t124):=by rw [ha];exact putSel_on (e:=(7,26,.string t124)) 5 rfl rfl (hon 7 (by kernel_rfl)) rfl
   replace ha:=Aside0.mk ha
   have HB:=Aside0.mk Q_HB
   have HO122:=Aside0.mk (Q_HO122 (hon 0 (by kernel_rfl)))
   have HA_HO122:=Aside0.mk (Q_HA_HO122 (hon 0 (by kernel_rfl)))
   refine value_ (w1:=w') (v:=.string (((rdOf ByteArray.empty t120 (ji22)) ++ (⟨#[32]⟩:ByteArray)) ++ t124)) (by rfl) rfl ?_ ?_
   ·go_simp
    (try simp only [i64_w])
    try rfl
   refine hK.out _ _ ⟨v121,adz_v121,v126,adz_v126,m3_,m12_,q117_,Q_HB,Q_HO122,Q_HA_HO122,Q_HO127,Q_HA_HO127,Q_X3_,Q_X12_⟩
  refine steps_cons ?_ ?_
  ·rintro b a w' ⟨v121,adz_v121,v126,adz_v126,m3_,m12_,ha,Q_HB,Q_HO122,Q_HA_HO122,Q_HO127,Q_HA_HO127,Q_X3_,Q_X12_⟩ hb_ hon hoff
   refine ⟨_,rfl,fun K hK => ?_⟩
   have e27:a.tmps[27]? = some (.string (((rdOf ByteArray.empty t120 (ji22)) ++ (⟨#[32]⟩:ByteArray)) ++ t124)):=by rw [ha];exact putSel_on (e:=(8,27,.string (((rdOf ByteArray.empty t120 (ji22)) ++ (⟨#[32]⟩:ByteArray)) ++ t124))) 6 rfl rfl (hon 8 (by kernel_rfl)) rfl
   replace ha:=Aside0.mk ha
   have HB:=Aside0.mk Q_HB
   have HO122:=Aside0.mk (Q_HO122 (hon 0 (by kernel_rfl)))
   have HA_HO122:=Aside0.mk (Q_HA_HO122 (hon 0 (by kernel_rfl)))
   refine value_ (w1:=w') (v:=.string ((((rdOf ByteArray.empty t120 (ji22)) ++ (⟨#[32]⟩:ByteArray)) ++ t124) ++ (⟨#[44]⟩:ByteArray))) (by rfl) rfl ?_ ?_
   ·go_simp
    (try simp only [i64_w])
    try rfl
   refine hK.out _ _ ⟨v121,adz_v121,v126,adz_v126,m3_,m12_,q118_,Q_HB,Q_HO122,Q_HA_HO122,Q_HO127,Q_HA_HO127,Q_X3_,Q_X12_⟩
  refine steps_cons ?_ ?_
  ·rintro b a w' ⟨v121,adz_v121,v126,adz_v126,m3_,m12_,ha,Q_HB,Q_HO122,Q_HA_HO122,Q_HO127,Q_HA_HO127,Q_X3_,Q_X12_⟩ hb_ hon hoff
   refine ⟨_,rfl,fun K hK => ?_⟩
   replace ha:=Aside0.mk ha
   have HB:=Aside0.mk Q_HB
   have HO122:=Aside0.mk (Q_HO122 (hon 0 (by kernel_rfl)))
   have HA_HO122:=Aside0.mk (Q_HA_HO122 (hon 0 (by kernel_rfl)))
   obtain ⟨co38,eo38⟩:=HA_HO122.out
   clear HA_HO122
   subst eo38
   refine goes_ Tryz.func96 (by kernel_rfl) rfl #[] (by rfl) rfl rfl (by first | (simp only [List.map_toArray,List.map_cons,List.map_nil,Act.eval,Array.getD_eq_getD_getElem?,Option.getD_some];done) | (simp only [List.map_toArray,List.map_cons,List.map_nil,Act.eval,Array.getD_eq_getD_getElem?,Option.getD_some];rfl)) ?_
   with_reducible refine (impl_regs.calls  t125 _ A29.out).mono ?_
   rintro e w39 ⟨v126,rfl,ho0,hb⟩
   refine ⟨_,rfl,?_⟩
   have n0_:=Aside0.mk (Kd.R_elder' q95_ (Kd.R_base ho0) hb)
   have n1_:=Aside0.mk (Kd.R_lower (Kd.R_new' ho0 (Kd.R_lt q95_)) (below_size q72_))
   have n2_:=Aside0.mk (below_step q72_ hb)
   clear HO122
   clear HB
   have HO122:=n0_
   have HO127:=n1_
   have HB:=n2_
   clear n0_ n1_ n2_
   (try clear hb)
   (try clear hb2)
   (try clear hk)
   (try clear hi)
   (try clear ho0)
   obtain ⟨Ao40,co40,eo40⟩:=Kd.R_slice HO127.out
   subst eo40
   obtain ⟨ado40,fo40,_⟩:=Kd.at_string (Kd.R_reads' HO127.out).2.2 0 (by decide) (by have h1_:=of_eq_true pi128;have h2_:=of_eq_true qi128;omega)
   cases fo40
   refine hK.out _ _ ⟨.slice (some adz_v121) t120.length co38,adz_v121,.slice (some ado40) t125.length co40,ado40,m3_,m12_,q119_,q72_,fun _ => (by (with_reducible repeat (first | apply Kd.R_alloc | apply Kd.R_drewN | apply Kd.R_drew));exact Kd.R_mono HO122.out (fun _ hk => by first | exact hk.2 | trivial)),fun _ => ⟨_,rfl⟩,fun _ => (by (with_reducible repeat (first | apply Kd.R_alloc | apply Kd.R_drewN | apply Kd.R_drew));exact Kd.R_mono HO127.out (fun _ hk => by first | exact hk.2 | trivial)),fun _ => ⟨_,rfl⟩,Q_X3_,fun h0_ => absurd ((hoff 12 (by kernel_rfl)).symm.trans h0_) (by decide)⟩
  refine steps_cons ?_ ?_
  ·rintro b a w' ⟨v121,adz_v121,v126,adz_v126,m3_,m12_,ha,Q_HB,Q_HO122,Q_HA_HO122,Q_HO127,Q_HA_HO127,Q_X3_,Q_X12_⟩ hb_ hon hoff
   refine ⟨_,rfl,fun K hK => ?_⟩
   have e29:a.tmps[29]? = some (v126):=by rw [ha];exact putSel_on (e:=(10,29,v126)) 8 rfl rfl (hon 10 (by kernel_rfl)) rfl
   have e30:a.tmps[30]? = some (.int .i64 a2):=by rw [ha];exact (putSel_off rfl).trans rfl
   replace ha:=Aside0.mk ha
   have HB:=Aside0.mk Q_HB
   have HO122:=Aside0.mk (Q_HO122 (hon 0 (by kernel_rfl)))
   have HA_HO122:=Aside0.mk (Q_HA_HO122 (hon 0 (by kernel_rfl)))
   have HO127:=Aside0.mk (Q_HO127 (hon 10 (by kernel_rfl)))
   have HA_HO127:=Aside0.mk (Q_HA_HO127 (hon 10 (by kernel_rfl)))
   obtain ⟨c_,hv_⟩:=HA_HO127.out
   rw [hv_] at e29
   refine value_ (w1:=w') (v:=.pointer (some (adz_v126.add (a2).toNat))) (by rfl) rfl ?_ ?_
   ·go_simp
    (try simp only [i64_w])
    try rfl
   refine hK.out _ _ ⟨v121,adz_v121,v126,adz_v126,m3_,(.pointer (some (adz_v126.add (a2).toNat))),q120_,Q_HB,Q_HO122,Q_HA_HO122,Q_HO127,Q_HA_HO127,Q_X3_,fun _ => rfl⟩
  refine steps_cons ?_ ?_
  ·rintro b a w' ⟨v121,adz_v121,v126,adz_v126,m3_,m12_,ha,Q_HB,Q_HO122,Q_HA_HO122,Q_HO127,Q_HA_HO127,Q_X3_,Q_X12_⟩ hb_ hon hoff
   refine ⟨_,rfl,fun K hK => ?_⟩
   have e31:a.tmps[31]? = some (m12_):=by rw [ha];exact putSel_on (e:=(12,31,m12_)) 9 rfl rfl (hon 12 (by kernel_rfl)) rfl
   rw [Q_X12_ (hon 12 (by kernel_rfl))] at e31
   replace ha:=Aside0.mk ha
   have HB:=Aside0.mk Q_HB
   have HO122:=Aside0.mk (Q_HO122 (hon 0 (by kernel_rfl)))
   have HA_HO122:=Aside0.mk (Q_HA_HO122 (hon 0 (by kernel_rfl)))
   have HO127:=Aside0.mk (Q_HO127 (hon 10 (by kernel_rfl)))
   have HA_HO127:=Aside0.mk (Q_HA_HO127 (hon 10 (by kernel_rfl)))
   obtain ⟨c_,hv_⟩:=HA_HO127.out
   have hF_:=HO127.out
   rw [hv_] at hF_
   obtain ⟨ad_,ea_,hx_⟩:=Kd.at_string (Kd.R_reads' hF_).2.2 a2 (of_eq_true pi128) (of_eq_true qi128)
   cases ea_
   refine value_ (w1:=w') (v:=.string (rdOf ByteArray.empty t125 a2)) (by rfl) rfl ?_ ?_
   ·go_simp
    (try simp only [i64_w])
    try rfl
   refine hK.out _ _ ⟨v121,adz_v121,v126,adz_v126,m3_,m12_,(by rw [ha.out];exact putSel_upk 10 hb_ rfl rfl rfl),Q_HB,Q_HO122,Q_HA_HO122,Q_HO127,Q_HA_HO127,Q_X3_,Q_X12_⟩
  refine steps_cons ?_ ?_
  ·rintro b a w' ⟨v121,adz_v121,v126,adz_v126,m3_,m12_,ha,Q_HB,Q_HO122,Q_HA_HO122,Q_HO127,Q_HA_HO127,Q_X3_,Q_X12_⟩ hb_ hon hoff
   refine ⟨_,rfl,fun K hK => ?_⟩
   have e28:a.tmps[28]? = some (.string ((((rdOf ByteArray.empty t120 (ji22)) ++ (⟨#[32]⟩:ByteArray)) ++ t124) ++ (⟨#[44]⟩:ByteArray))):=by rw [ha];exact putSel_on (e:=(9,28,.string ((((rdOf ByteArray.empty t120 (ji22)) ++ (⟨#[32]⟩:ByteArray)) ++ t124) ++ (⟨#[44]⟩:ByteArray)))) 7 rfl rfl (hon 9 (by kernel_rfl)) rfl
   have e32:a.tmps[32]? = some (.string (rdOf ByteArray.empty t125 a2)):=by rw [ha];exact putSel_on (e:=(13,32,.string (rdOf ByteArray.empty t125 a2))) 10 rfl rfl (hon 13 (by kernel_rfl)) rfl
   replace ha:=Aside0.mk ha
   have HB:=Aside0.mk Q_HB
   have HO122:=Aside0.mk (Q_HO122 (hon 0 (by kernel_rfl)))
   have HA_HO122:=Aside0.mk (Q_HA_HO122 (hon 0 (by kernel_rfl)))
   have HO127:=Aside0.mk (Q_HO127 (hon 10 (by kernel_rfl)))
   have HA_HO127:=Aside0.mk (Q_HA_HO127 (hon 10 (by kernel_rfl)))
   refine value_ (w1:=w') (v:=.string (((((rdOf ByteArray.empty t120 (ji22)) ++ (⟨#[32]⟩:ByteArray)) ++ t124) ++ (⟨#[44]⟩:ByteArray)) ++ (rdOf ByteArray.empty t125 a2))) (by rfl) rfl ?_ ?_
   ·go_simp
    (try simp only [i64_w])
    try rfl
   refine hK.out _ _ ⟨v121,adz_v121,v126,adz_v126,m3_,m12_,(by rw [ha.out];exact putSel_upk 11 hb_ rfl rfl rfl),Q_HB,Q_HO122,Q_HA_HO122,Q_HO127,Q_HA_HO127,Q_X3_,Q_X12_⟩
  refine steps_cons ?_ ?_
  ·rintro b a w' ⟨v121,adz_v121,v126,adz_v126,m3_,m12_,ha,Q_HB,Q_HO122,Q_HA_HO122,Q_HO127,Q_HA_HO127,Q_X3_,Q_X12_⟩ hb_ hon hoff
   refine ⟨_,rfl,fun K hK => ?_⟩
   have e33:a.tmps[33]? = some (.string (((((rdOf ByteArray.empty t120 (ji22)) ++ (⟨#[32]⟩:ByteArray)) ++ t124) ++ (⟨#[44]⟩:ByteArray)) ++ (rdOf ByteArray.empty t125 a2))):=by rw [ha];exact putSel_on (e:=(14,33,.string (((((rdOf ByteArray.empty t120 (ji22)) ++ (⟨#[32]⟩:ByteArray)) ++ t124) ++ (⟨#[44]⟩:ByteArray)) ++ (rdOf ByteArray.empty t125 a2)))) 11 rfl rfl (hon 14 (by kernel_rfl)) rfl
   replace ha:=Aside0.mk ha
   have HB:=Aside0.mk Q_HB
   have HO122:=Aside0.mk (Q_HO122 (hon 0 (by kernel_rfl)))
   have HA_HO122:=Aside0.mk (Q_HA_HO122 (hon 0 (by kernel_rfl)))
   have HO127:=Aside0.mk (Q_HO127 (hon 10 (by kernel_rfl)))
   have HA_HO127:=Aside0.mk (Q_HA_HO127 (hon 10 (by kernel_rfl)))
   refine value_ (w1:=w') (v:=.string (((((rdOf ByteArray.empty t120 (ji22)) ++ (⟨#[32]⟩:ByteArray)) ++ t124) ++ (⟨#[44]⟩:ByteArray)) ++ (rdOf ByteArray.empty t125 a2))) (by rfl) rfl ?_ ?_
   ·go_simp
    (try simp only [i64_w])
    try rfl
   refine hK.out _ _ ⟨v121,adz_v121,v126,adz_v126,m3_,m12_,(by rw [ha.out];exact putSel_upk 12 hb_ rfl rfl rfl),Q_HB,Q_HO122,Q_HA_HO122,Q_HO127,Q_HA_HO127,Q_X3_,Q_X12_⟩
  exact steps_nil
 rintro b a w39 hall ⟨v121,adz_v121,v126,adz_v126,m3_,m12_,ha,Q_HB,Q_HO122,Q_HA_HO122,Q_HO127,Q_HA_HO127,Q_X3_,Q_X12_⟩
 clear HB
 have hb0_:=hall 0 (by kernel_rfl)
 have hb2_:=hall 2 (by kernel_rfl)
 have hb3_:=hall 3 (by kernel_rfl)
 have hb4_:=hall 4 (by kernel_rfl)
 have hb5_:=hall 5 (by kernel_rfl)
 have hb7_:=hall 7 (by kernel_rfl)
 have hb8_:=hall 8 (by kernel_rfl)
 have hb9_:=hall 9 (by kernel_rfl)
 have hb10_:=hall 10 (by kernel_rfl)
 have hb12_:=hall 12 (by kernel_rfl)
 have hb13_:=hall 13 (by kernel_rfl)
 have hb14_:=hall 14 (by kernel_rfl)
 have hb15_:=hall 15 (by kernel_rfl)
 subst ha
 obtain rfl:=Q_X3_ hb3_
 obtain rfl:=Q_X12_ hb12_
 simp only [putSel,hb0_,hb2_,hb3_,hb4_,hb5_,hb7_,hb8_,hb9_,hb10_,hb12_,hb13_,hb14_,hb15_,if_true,Act.put,List.setIfInBounds_toArray,List.set_cons_zero,List.set_cons_succ]
 have HB:=Aside0.mk Q_HB
 clear Q_HB
 have HO122:=Aside0.mk (Q_HO122 hb0_)
 clear Q_HO122
 have HA_HO122:=Aside0.mk (Q_HA_HO122 hb0_)
 clear Q_HA_HO122
 have HO127:=Aside0.mk (Q_HO127 hb10_)
 clear Q_HO127
 have HA_HO127:=Aside0.mk (Q_HA_HO127 hb10_)
 clear Q_HA_HO127
 clear hall hb0_ hb2_ hb3_ hb4_ hb5_ hb7_ hb8_ hb9_ hb10_ hb12_ hb13_ hb14_ hb15_
 obtain ⟨co40,eo40⟩:=HA_HO122.out
 clear HA_HO122
 subst eo40
 obtain ⟨co41,eo41⟩:=HA_HO127.out
 clear HA_HO127
 subst eo41
 try go_wp2
 go_ret
 exact ⟨by first | rfl | (simp [errW_none,errW_some] <;> rfl) | (simp only [← hji22];first | rfl | (simp [errW_none,errW_some] <;> rfl)) | (simp [*,errW_none,errW_some] <;> rfl) | (exfalso;simp_all;done),q72_⟩
def impl_conds.f :Option (List ByteArray):=(impl_names.f (⟨#[110,122,32,122,32,110,99,32,99]⟩:ByteArray)).bind fun t129 => (some t129)
theorem impl_conds.calls  (r:List ByteArray) (w:World) (h:impl_conds.f  = some r) (hG:Go.Proofs.YtodlnnoekccmmaaGreatDoor.LibW.GL w:=by first | exact hG | exact hG.below q10_ | exact hG.drewN _) :
  Calls Tryz.prog 129 #[] w fun e w' => ∃ v0_:Value,e = .returned (v0_) ∧ Kd.R Kd.string 9 w' w.heap.size (fun _ => True) v0_ r ∧ Below w.heap.size w w':=by
 have HB:=Aside0.mk (Below.refl w.heap.size w)
 have H:=h;unfold impl_conds.f at H
 clear h
 replace H:=Option.bind_eq_some_iff.mp H
 obtain ⟨t129,A10,H⟩:=H
 have A1:=Aside0.mk A10
 clear A10
 obtain rfl:=Option.some.inj H
 go_enter Tryz.func129,Tryz.ntmps129
 go_wp2_with (first | ((with_reducible refine gate_callee (f:=97) rfl ?_);refine goesL_ (some 1) rfl rfl Tryz.func97 (by kernel_rfl) rfl #[.string (⟨#[110,122,32,122,32,110,99,32,99]⟩:ByteArray)] rfl q71_ ?_;(with_reducible refine (impl_names.calls (⟨#[110,122,32,122,32,110,99,32,99]⟩:ByteArray) t129 _ A1.out).mono ?_);rintro e w2 ⟨v130,rfl,ho0,hb⟩;refine ⟨_,rfl,?_⟩;have n0_:=Aside0.mk (Kd.R_lower ho0 (below_size q72_));have n1_:=Aside0.mk (below_step q72_ hb);clear HB;have HO131:=n0_;have HB:=n1_;clear n0_ n1_;(try clear hb);(try clear ho0)))
 go_ret
 exact ⟨_,q74_,by (with_reducible repeat (first | apply Kd.R_alloc | apply Kd.R_drewN | apply Kd.R_drew));exact HO131.out,q72_⟩
def impl_pairs.f :Option (List ByteArray):=(impl_names.f (⟨#[98,99,32,100,101,32,104,108,32,115,112]⟩:ByteArray)).bind fun t132 => (some t132)
theorem impl_pairs.calls  (r:List ByteArray) (w:World) (h:impl_pairs.f  = some r) (hG:Go.Proofs.YtodlnnoekccmmaaGreatDoor.LibW.GL w:=by first | exact hG | exact hG.below q10_ | exact hG.drewN _) :
  Calls Tryz.prog 130 #[] w fun e w' => ∃ v0_:Value,e = .returned (v0_) ∧ Kd.R Kd.string 9 w' w.heap.size (fun _ => True) v0_ r ∧ Below w.heap.size w w':=by
 have HB:=Aside0.mk (Below.refl w.heap.size w)
 have H:=h;unfold impl_pairs.f at H
 clear h
 replace H:=Option.bind_eq_some_iff.mp H
 obtain ⟨t132,A10,H⟩:=H
 have A1:=Aside0.mk A10
 clear A10
 obtain rfl:=Option.some.inj H
 go_enter Tryz.func130,Tryz.ntmps130
 go_wp2_with (first | ((with_reducible refine gate_callee (f:=97) rfl ?_);refine goesL_ (some 1) rfl rfl Tryz.func97 (by kernel_rfl) rfl #[.string (⟨#[98,99,32,100,101,32,104,108,32,115,112]⟩:ByteArray)] rfl q71_ ?_;(with_reducible refine (impl_names.calls (⟨#[98,99,32,100,101,32,104,108,32,115,112]⟩:ByteArray) t132 _ A1.out).mono ?_);rintro e w2 ⟨v133,rfl,ho0,hb⟩;refine ⟨_,rfl,?_⟩;have n0_:=Aside0.mk (Kd.R_lower ho0 (below_size q72_));have n1_:=Aside0.mk (below_step q72_ hb);clear HB;have HO134:=n0_;have HB:=n1_;clear n0_ n1_;(try clear hb);(try clear ho0)))
 go_ret
 exact ⟨_,q74_,by (with_reducible repeat (first | apply Kd.R_alloc | apply Kd.R_drewN | apply Kd.R_drew));exact HO134.out,q72_⟩
end Go.Proofs.YtodlnnoekccmmaaGreatDoor.QFnInsTexts
