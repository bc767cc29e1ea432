/- The machine's side of a law,written by a program of this session for this claim. -/
import Derived.Test.YtodlnnoekccmmaaGreatDoorIQq
import Derived.Test.YtodlnnoekccmmaaGreatDoorIQFnInsTextsx0
import Derived.Test.YtodlnnoekccmmaaGreatDoorIQFnInsTextsx2
import Derived.Test.YtodlnnoekccmmaaGreatDoorIQFnInsTextsx6
import Derived.Test.YtodlnnoekccmmaaGreatDoorIQFnInsTextsx7
import Derived.Test.YtodlnnoekccmmaaGreatDoorIQFnInsTextsx8
import Derived.Test.YtodlnnoekccmmaaGreatDoorIQFnInsTextsx10
import Derived.Test.YtodlnnoekccmmaaGreatDoorIQFnInsTextsx12
namespace Go.Proofs.YtodlnnoekccmmaaGreatDoor.QFnInsTexts
open Go.Proofs.YtodlnnoekccmmaaGreatDoor.Qq
open Go.RowKit Go.Proofs.YtodlnnoekccmmaaGreatDoor.LibX Go.Proofs.YtodlnnoekccmmaaGreatDoor.LibE Go.Proofs.YtodlnnoekccmmaaGreatDoor.LibCB Go.Proofs.YtodlnnoekccmmaaGreatDoorW.PrintWords Go.Proofs.YtodlnnoekccmmaaGreatDoorW.PrintLast Go.Proofs.YtodlnnoekccmmaaGreatDoorW.PrintMore
attribute [local go_sem] max2_int min2_int max_two min_two max_three min_three max_four min_four   -- for this text's walks alone
set_option maxHeartbeats 8000000
set_option maxRecDepth 100000
set_option linter.unusedVariables false
set_option linter.unusedSimpArgs false
def impl_ReadNum.j0:Nat → Int → Bool → Option (Int × Bool)
 | 0,_,_ => none
 | k + 1,x4,x5 => if x5 = true then (some (x4,true)) else (some (0,false))
def impl_ReadNum.f (k:Nat) (a0:ByteArray):Option (Int × Bool):=if (a0.size:Int) > 18 then (impl_ReadNum.j0 k 0 false) else ((strings_HasPrefix.f a0 (⟨#[36]⟩:ByteArray)).bind fun t502 => (if t502 = true then (if 1 ≤ (a0.size:Int) then ((impl_valueOf.f k (a0.extract 1 a0.size) (⟨#[48,49,50,51,52,53,54,55,56,57,65,66,67,68,69,70]⟩:ByteArray)).bind fun bt503 => (impl_ReadNum.j0 k bt503.1 bt503.2)) else (none)) else ((strings_HasPrefix.f a0 (⟨#[37]⟩:ByteArray)).bind fun t505 => (if t505 = true then (if 1 ≤ (a0.size:Int) then ((impl_valueOf.f k (a0.extract 1 a0.size) (⟨#[48,49]⟩:ByteArray)).bind fun bt506 => (impl_ReadNum.j0 k bt506.1 bt506.2)) else (none)) else ((impl_valueOf.f k a0 (⟨#[48,49,50,51,52,53,54,55,56,57]⟩:ByteArray)).bind fun bt508 => (impl_ReadNum.j0 k bt508.1 bt508.2))))))
theorem impl_ReadNum.calls (k:Nat) (a0:ByteArray) (r1:Int) (r2:Bool) (w:World) (h:impl_ReadNum.f k a0 = some (r1,r2)) :
  Calls Tryz.prog 68 #[.string a0] w fun e w' => e = .returned (.tuple #[.int .i64 r1,.bool r2]) ∧ Drawn0 w w':=by
 have H:=h;unfold impl_ReadNum.f at H
 clear h
 have HC2:=Aside0.mk H
 clear H
 go_enter Tryz.func68,Tryz.ntmps68
 go_upto_block 0 with (fail)
 go_cut [4,5] (fun v4 v5 wc => ∃ (kq:Nat) (x4_1:Int) (x5_1:Bool),v4 = .int .i64 x4_1 ∧ v5 = .bool x5_1 ∧ Aside0 (impl_ReadNum.j0 kq x4_1 x5_1 = some (r1,r2)) ∧ Aside0 (kq ≤ k) ∧ Drawn0 w wc)
 case first =>
  have H:=HC2.out
  clear HC2
  by_cases c3:(a0.size:Int) > 18
  ·rw [if_pos c3] at H
   have c3b0:decide (18 < (a0.size:Int)) = true:=decide_eq_true c3
   have c3b1:decide (18 < a0.size) = true:=decide_eq_true (by omega)
   clear c3
   (first | rw [c3b0] | (simp only [i64_w,i32_w];rw [c3b0]) | rw [c3b9] | skip)
   have H':=Aside0.mk H
   clear H
   go_wp2
   go_meet
   case rel => exact ⟨_,(0),(false),q92_,q92_,H',⟨q121_⟩,q108_⟩
  rw [if_neg c3] at H
  have c3b0:decide (18 < (a0.size:Int)) = false:=decide_eq_false c3
  have c3b1:decide (18 < a0.size) = false:=decide_eq_false (by omega)
  clear c3
  (first | rw [c3b0] | (simp only [i64_w,i32_w];rw [c3b0]) | rw [c3b9] | skip)
  replace H:=Option.bind_eq_some_iff.mp H
  obtain ⟨t502,A40,H⟩:=H
  have A4:=Aside0.mk A40
  clear A40
  by_cases c5:t502 = true
  ·subst c5
   rewrite [if_pos rfl] at H
   by_cases c6:1 ≤ (a0.size:Int)
   rotate_left
   ·rw [if_neg c6] at H
    exact absurd H (by simp)
   rw [if_pos c6] at H
   have c6b0:=eq_true c6
   have c6b1:=decide_eq_true c6
   clear c6
   replace H:=Option.bind_eq_some_iff.mp H
   obtain ⟨⟨t503,t504⟩,A70,H⟩:=H
   try dsimp -simprocs -eta only at H
   have A7:=Aside0.mk A70
   clear A70
   have H':=Aside0.mk H
   clear H
   go_wp2_with (first | ((with_reducible refine gate_callee (f:=117) rfl ?_);refine goesL_ (some 17) rfl rfl Tryz.func117 (by kernel_rfl) rfl #[.string a0,.string (⟨#[36]⟩:ByteArray)] rfl q71_ ?_;(with_reducible refine (strings_HasPrefix.calls a0 (⟨#[36]⟩:ByteArray) true _ A4.out).mono ?_);rintro e w' ⟨rfl,⟨nd,rfl⟩⟩;refine ⟨_,rfl,?_⟩) | ((with_reducible refine gate_callee (f:=118) rfl ?_);refine goesL_ (some 21) rfl rfl Tryz.func118 (by kernel_rfl) rfl #[.string (a0.extract 1 a0.size),.string (⟨#[48,49,50,51,52,53,54,55,56,57,65,66,67,68,69,70]⟩:ByteArray)] rfl q71_ ?_;(with_reducible refine (impl_valueOf.calls k (a0.extract 1 a0.size) (⟨#[48,49,50,51,52,53,54,55,56,57,65,66,67,68,69,70]⟩:ByteArray) t503 t504 _ A7.out).mono ?_);rintro e w' ⟨rfl,⟨nd,rfl⟩⟩;refine ⟨_,rfl,?_⟩))
   go_meet
   case rel => exact ⟨_,(t503),(t504),q92_,q92_,H',⟨q121_⟩,q108_⟩
  replace c5:=Bool.eq_false_iff.mpr c5
  subst c5
  rewrite [if_neg (show ¬ (false = true) by decide)] at H
  replace H:=Option.bind_eq_some_iff.mp H
  obtain ⟨t505,A80,H⟩:=H
  have A8:=Aside0.mk A80
  clear A80
  by_cases c9:t505 = true
  ·subst c9
   rewrite [if_pos rfl] at H
   by_cases c10:1 ≤ (a0.size:Int)
   rotate_left
   ·rw [if_neg c10] at H
    exact absurd H (by simp)
   rw [if_pos c10] at H
   have c10b0:=eq_true c10
   have c10b1:=decide_eq_true c10
   clear c10
   replace H:=Option.bind_eq_some_iff.mp H
   obtain ⟨⟨t506,t507⟩,A110,H⟩:=H
   try dsimp -simprocs -eta only at H
   have A11:=Aside0.mk A110
   clear A110
   have H':=Aside0.mk H
   clear H
   go_wp2_with (first | ((with_reducible refine gate_callee (f:=117) rfl ?_);refine goesL_ (some 17) rfl rfl Tryz.func117 (by kernel_rfl) rfl #[.string a0,.string (⟨#[36]⟩:ByteArray)] rfl q71_ ?_;(with_reducible refine (strings_HasPrefix.calls a0 (⟨#[36]⟩:ByteArray) false _ A4.out).mono ?_);rintro e w' ⟨rfl,⟨nd,rfl⟩⟩;refine ⟨_,rfl,?_⟩) | ((with_reducible refine gate_callee (f:=117) rfl ?_);refine goesL_ (some 26) rfl rfl Tryz.func117 (by kernel_rfl) rfl #[.string a0,.string (⟨#[37]⟩:ByteArray)] rfl q71_ ?_;(with_reducible refine (strings_HasPrefix.calls a0 (⟨#[37]⟩:ByteArray) true _ A8.out).mono ?_);rintro e w' ⟨rfl,⟨nd,rfl⟩⟩;refine ⟨_,rfl,?_⟩) | ((with_reducible refine gate_callee (f:=118) rfl ?_);refine goesL_ (some 30) rfl rfl Tryz.func118 (by kernel_rfl) rfl #[.string (a0.extract 1 a0.size),.string (⟨#[48,49]⟩:ByteArray)] rfl q71_ ?_;(with_reducible refine (impl_valueOf.calls k (a0.extract 1 a0.size) (⟨#[48,49]⟩:ByteArray) t506 t507 _ A11.out).mono ?_);rintro e w' ⟨rfl,⟨nd,rfl⟩⟩;refine ⟨_,rfl,?_⟩))
   go_meet
   case rel => exact ⟨_,(t506),(t507),q92_,q92_,H',⟨q121_⟩,q108_⟩
  replace c9:=Bool.eq_false_iff.mpr c9
  subst c9
  rewrite [if_neg (show ¬ (false = true) by decide)] at H
  replace H:=Option.bind_eq_some_iff.mp H
  obtain ⟨⟨t508,t509⟩,A120,H⟩:=H
  try dsimp -simprocs -eta only at H
  have A12:=Aside0.mk A120
  clear A120
  have H':=Aside0.mk H
  clear H
  go_wp2_with (first | ((with_reducible refine gate_callee (f:=117) rfl ?_);refine goesL_ (some 17) rfl rfl Tryz.func117 (by kernel_rfl) rfl #[.string a0,.string (⟨#[36]⟩:ByteArray)] rfl q71_ ?_;(with_reducible refine (strings_HasPrefix.calls a0 (⟨#[36]⟩:ByteArray) false _ A4.out).mono ?_);rintro e w' ⟨rfl,⟨nd,rfl⟩⟩;refine ⟨_,rfl,?_⟩) | ((with_reducible refine gate_callee (f:=117) rfl ?_);refine goesL_ (some 26) rfl rfl Tryz.func117 (by kernel_rfl) rfl #[.string a0,.string (⟨#[37]⟩:ByteArray)] rfl q71_ ?_;(with_reducible refine (strings_HasPrefix.calls a0 (⟨#[37]⟩:ByteArray) false _ A8.out).mono ?_);rintro e w' ⟨rfl,⟨nd,rfl⟩⟩;refine ⟨_,rfl,?_⟩) | ((with_reducible refine gate_callee (f:=118) rfl ?_);refine goesL_ (some 8) rfl rfl Tryz.func118 (by kernel_rfl) rfl #[.string a0,.string (⟨#[48,49,50,51,52,53,54,55,56,57]⟩:ByteArray)] rfl q71_ ?_;(with_reducible refine (impl_valueOf.calls k a0 (⟨#[48,49,50,51,52,53,54,55,56,57]⟩:ByteArray) t508 t509 _ A12.out).mono ?_);rintro e w' ⟨rfl,⟨nd,rfl⟩⟩;refine ⟨_,rfl,?_⟩))
  go_meet
  case rel => exact ⟨_,(t508),(t509),q92_,q92_,H',⟨q121_⟩,q108_⟩
 clear HC2
 try clear c1
 try clear p2
 try clear c3
 try clear c3b0
 try clear c3b1
 try clear c5
 try clear c6
 try clear c6b0
 try clear c6b1
 try clear p6
 try clear c9
 try clear c10
 try clear c10b0
 try clear c10b1
 try clear c11
 obtain ⟨kq,x4_1,x5_1,rfl,rfl,HA,HJ1,⟨mc1,rfl⟩⟩:=hcut
 cases kq with
 | zero => exact absurd HA.out (by simp [impl_ReadNum.j0])
 | succ kj1 =>
  have H:=HA.out
  clear HA
  simp only [impl_ReadNum.j0] at H
  by_cases c13:x5_1 = true
  ·subst c13
   rewrite [if_pos rfl] at H
   simp only [Option.some.injEq,Prod.mk.injEq] at H
   obtain ⟨rfl,rfl⟩:=H
   go_wp2
   go_ret2
   exact ⟨q92_,q108_⟩
  replace c13:=Bool.eq_false_iff.mpr c13
  subst c13
  rewrite [if_neg (show ¬ (false = true) by decide)] at H
  simp only [Option.some.injEq,Prod.mk.injEq] at H
  obtain ⟨rfl,rfl⟩:=H
  go_wp2
  go_ret2
  exact ⟨q92_,q108_⟩
mutual
def impl_ReadInsText.j0:Nat → ByteArray → Bool → Option (Int × Bool × Int × Bool)
 | 0,_,_ => none
 | k + 1,x0,x22 => if x22 = true then (some (0,false,0,false)) else ((impl_wholeIns.f k x0).bind fun bt511 => (if bt511.2.2.2 = true then (some (bt511.1,bt511.2.1,bt511.2.2.1,true)) else (impl_ReadInsText.l0 k x0 0)))
def impl_ReadInsText.l0:Nat → ByteArray → Int → Option (Int × Bool × Int × Bool)
 | 0,_,_ => none
 | k + 1,x0,x31 => if x31 < 256 then ((impl_TemplateOf.f k x31 false).bind fun t516 => ((impl_holeOf.f k t516).bind fun t517 => (if t517.toList = ([]:List UInt8) then (impl_ReadInsText.l0 k x0 (wrap64 (x31 + 1))) else ((impl_inHole.f t516 t517 x0).bind fun bt518 => (if bt518.2 = true then ((impl_ReadNum.f k bt518.1).bind fun bt520 => (if t517.toList = ([101,56]:List UInt8) then ((strconv_ParseInt.f bt518.1 10 64).bind fun bt522 => (if bt522.2.isNone = true then ((impl_within.f bt522.1 (-128) 127).bind fun t525 => (impl_ReadInsText.j2 k x0 x31 (Go.bits .and .i64 bt522.1 255) t525 x31)) else (impl_ReadInsText.j2 k x0 x31 (Go.bits .and .i64 bt522.1 255) false x31))) else (impl_ReadInsText.j2 k x0 x31 bt520.1 bt520.2 x31))) else (impl_ReadInsText.l0 k x0 (wrap64 (x31 + 1)))))))) else (some (0,false,0,false))
def impl_ReadInsText.j2:Nat → ByteArray → Int → Int → Bool → Int → Option (Int × Bool × Int × Bool)
 | 0,_,_,_,_,_ => none
 | k + 1,x0,x6,x11,x12,x31 => if x12 = true then ((impl_InsText.f k x6 false x11).bind fun t527 => (if t527.toList = x0.toList then (some (x6,false,x11,true)) else (impl_ReadInsText.l0 k x0 (wrap64 (x31 + 1))))) else (impl_ReadInsText.l0 k x0 (wrap64 (x31 + 1)))
end
def impl_ReadInsText.f (k:Nat) (a0:ByteArray):Option (Int × Bool × Int × Bool):=if (a0.size:Int) > 20 then (impl_ReadInsText.j0 k a0 true) else (impl_ReadInsText.j0 k a0 (a0.toList == ([]:List UInt8)))
theorem impl_ReadInsText.calls (k:Nat) (a0:ByteArray) (r1:Int) (r2:Bool) (r3:Int) (r4:Bool) (w:World) (h:impl_ReadInsText.f k a0 = some (r1,r2,r3,r4)) (hG:Go.Proofs.YtodlnnoekccmmaaGreatDoor.LibW.GL w:=by first | exact hG | exact hG.below q10_ | exact hG.drewN _) :
  Calls Tryz.prog 27 #[.string a0] w fun e w' => e = .returned (.tuple #[.agg #[.int .i64 r1,.bool r2,.int .i64 r3],.bool r4]) ∧ Below w.heap.size w w':=by
 have hu30:=Tryz.underlying30
 have hu79:=Tryz.underlying79
 have HB:=Aside0.mk (Below.refl w.heap.size w)
 have H:=h;unfold impl_ReadInsText.f at H
 clear h
 have HC2:=Aside0.mk H
 clear H
 go_enter Tryz.func27,Tryz.ntmps27
 go_upto_region 1 with (first | ((with_reducible refine gate_dst (N:=2) rfl ?_);refine box_event ?hg (N:=2) ?hd (cs:=#[.int .i64 0,.bool false,.int .i64 0]) (t:=30) ?hr ?_;(case hd => rfl);(case hg => rfl);(case hr => exact q139_);intro gb510 hg w3 hbox hb;have n0_:=Aside0.mk (below_step q72_ hb);have n1_:=Aside0.mk (hbox);have n2_:=Aside0.mk ((q56_:w.heap.size ≤ gb510));have n3_:=Aside0.mk ((q56_:w.heap.size ≤ gb510));clear HB;have HB:=n0_;have BK510:=n1_;have GW510:=n2_;have GE510:=n3_;clear n0_ n1_ n2_ n3_;clear hb hbox hg))
 (try simp only [Act.put,List.setIfInBounds_toArray,List.set_cons_zero,List.set_cons_succ])
 go_cut [22] (fun v22 wc => ∃ (kq:Nat) (x22_1:Bool),v22 = .bool x22_1 ∧ Aside0 (impl_ReadInsText.j0 kq a0 x22_1 = some (r1,r2,r3,r4)) ∧ Aside0 (kq ≤ k) ∧ Aside0 (wc.heap[gb510]? = some (.cells #[.int .i64 0,.bool false,.int .i64 0] 30 (0,0))) ∧ Aside0 (Below w.heap.size w wc))
 case first =>
  have H:=HC2.out
  clear HC2
  by_cases c4:(a0.size:Int) > 20
  ·rw [if_pos c4] at H
   have c4b0:decide (20 < (a0.size:Int)) = true:=decide_eq_true c4
   have c4b1:decide (20 < a0.size) = true:=decide_eq_true (by omega)
   clear c4
   (first | rw [c4b0] | (simp only [i64_w,i32_w];rw [c4b0]) | rw [c4b9] | skip)
   have H':=Aside0.mk H
   clear H
   go_wp2
   go_meet
   case rel => exact ⟨_,(true),q92_,H',⟨q121_⟩,⟨q81_⟩,⟨q61_⟩⟩
  rw [if_neg c4] at H
  have c4b0:decide (20 < (a0.size:Int)) = false:=decide_eq_false c4
  have c4b1:decide (20 < a0.size) = false:=decide_eq_false (by omega)
  clear c4
  (first | rw [c4b0] | (simp only [i64_w,i32_w];rw [c4b0]) | rw [c4b9] | skip)
  have H':=Aside0.mk H
  clear H
  go_wp2
  go_meet
  case rel => exact ⟨_,((a0.toList == ([]:List UInt8))),q92_,H',⟨q121_⟩,⟨q81_⟩,⟨q61_⟩⟩
 clear HC2
 try clear c2
 try clear p2
 try clear c4
 try clear c4b0
 try clear c4b1
 obtain ⟨kq,x22_1,rfl,HA,HJ1,BK510,HB⟩:=hcut
 cases kq with
 | zero => exact absurd HA.out (by simp [impl_ReadInsText.j0])
 | succ kj1 =>
  have H:=HA.out
  clear HA
  simp only [impl_ReadInsText.j0] at H
  by_cases c5:x22_1 = true
  ·subst c5
   rewrite [if_pos rfl] at H
   simp only [Option.some.injEq,Prod.mk.injEq] at H
   obtain ⟨rfl,rfl,rfl,rfl⟩:=H
   have hcz6_0:wc.cell? ⟨gb510,0,none⟩ = some (.int .i64 0):=bz_ BK510 0
   have hcz6_1:wc.cell? ⟨gb510,1,none⟩ = some (.bool false):=bz_ BK510 1
   have hcz6_2:wc.cell? ⟨gb510,2,none⟩ = some (.int .i64 0):=bz_ BK510 2
   have hfz6_0:=blk_frozen BK510.out 0
   have hfz6_1:=blk_frozen BK510.out 1
   have hfz6_2:=blk_frozen BK510.out 2
   go_wp2
   refine bodyPost_ret (results_ct rfl _ _ gb510 30 #[.int .i64 0,.bool false,.int .i64 0] (0,0) _ rfl (by (with_reducible repeat (first | refine blk_drewN ?_ _ | refine blk_drew ?_ | refine blk_alloc ?_ _));refine blk_put (cs:=#[.int .i64 0,.bool false,.int .i64 0]) ?_ 2 _ rfl;(with_reducible repeat (first | refine blk_drewN ?_ _ | refine blk_drew ?_ | refine blk_alloc ?_ _));refine blk_put (cs:=#[.int .i64 0,.bool false,.int .i64 0]) ?_ 1 _ rfl;(with_reducible repeat (first | refine blk_drewN ?_ _ | refine blk_drew ?_ | refine blk_alloc ?_ _));refine blk_put (cs:=#[.int .i64 0,.bool false,.int .i64 0]) ?_ 0 _ rfl;(with_reducible repeat (first | refine blk_drewN ?_ _ | refine blk_drew ?_ | refine blk_alloc ?_ _));exact BK510.out) Tryz.underlying30 rfl (by kernel_rfl)) rfl ?_
   exact ⟨q74_,q61_⟩
  replace c5:=Bool.eq_false_iff.mpr c5
  subst c5
  rewrite [if_neg (show ¬ (false = true) by decide)] at H
  replace H:=Option.bind_eq_some_iff.mp H
  obtain ⟨⟨t511,t512,t513,t514⟩,A70,H⟩:=H
  try dsimp -simprocs -eta only at H
  have A7:=Aside0.mk A70
  clear A70
  by_cases c8:t514 = true
  ·subst c8
   rewrite [if_pos rfl] at H
   simp only [Option.some.injEq,Prod.mk.injEq] at H
   obtain ⟨rfl,rfl,rfl,rfl⟩:=H
   go_wp2_with (first | ((with_reducible refine gate_callee (f:=66) rfl ?_);refine goesL_ (some 26) rfl rfl Tryz.func66 (by kernel_rfl) rfl #[.string a0] rfl q71_ ?_;(with_reducible refine (impl_wholeIns.calls kj1 a0 t511 t512 t513 true _ A7.out).mono ?_);rintro e w9 ⟨rfl,hb⟩;refine ⟨_,rfl,?_⟩;have n0_:=Aside0.mk (blk_below (g:=gb510) (o:=.cells #[.int .i64 0,.bool false,.int .i64 0] 30 (0,0)) q81_ hb);have n1_:=Aside0.mk (below_step q61_ hb);clear BK510;clear HB;have BK510:=n0_;have HB:=n1_;clear n0_ n1_;(try clear hb)) | ((with_reducible refine gate_dst (N:=4) rfl ?_);refine box_event ?hg (N:=4) ?hd (cs:=#[.int .i64 0,.bool false,.int .i64 0]) (t:=30) ?hr ?_;(case hd => rfl);(case hg => rfl);(case hr => exact q139_);intro gb515 hg w10 hbox hb;have n0_:=Aside0.mk (blk_below (g:=gb510) (o:=.cells #[.int .i64 0,.bool false,.int .i64 0] 30 (0,0)) q81_ hb);have n1_:=Aside0.mk (below_step q61_ hb);have n2_:=Aside0.mk (hbox);have n3_:=Aside0.mk ((q45_:w.heap.size ≤ gb515));have n4_:=Aside0.mk ((q45_:w.heap.size ≤ gb515));have n5_:=Aside0.mk ((q28_:gb510 ≠ gb515));have n6_:=Aside0.mk ((q29_:gb515 ≠ gb510));clear BK510;clear HB;have BK510:=n0_;have HB:=n1_;have BK515:=n2_;have GW515:=n3_;have GE515:=n4_;have NB510_515:=n5_;have NB515_510:=n6_;clear n0_ n1_ n2_ n3_ n4_ n5_ n6_;clear hb hbox hg;have hnb11:=NB515_510.out;have hnc11:=NB510_515.out;have hcz12_0:w10.cell? ⟨gb515,0,none⟩ = some (.int .i64 0):=(blk_cell BK515.out 0).trans rfl;have hcz12_1:w10.cell? ⟨gb515,1,none⟩ = some (.bool false):=(blk_cell BK515.out 1).trans rfl;have hcz12_2:w10.cell? ⟨gb515,2,none⟩ = some (.int .i64 0):=(blk_cell BK515.out 2).trans rfl;have hfz12_0:=blk_frozen BK515.out 0;have hfz12_1:=blk_frozen BK515.out 1;have hfz12_2:=blk_frozen BK515.out 2;have hcz13_0:w10.cell? ⟨gb510,0,none⟩ = some (.int .i64 0):=(blk_cell BK510.out 0).trans rfl;have hcz13_1:w10.cell? ⟨gb510,1,none⟩ = some (.bool false):=(blk_cell BK510.out 1).trans rfl;have hcz13_2:w10.cell? ⟨gb510,2,none⟩ = some (.int .i64 0):=(blk_cell BK510.out 2).trans rfl;have hfz13_0:=blk_frozen BK510.out 0;have hfz13_1:=blk_frozen BK510.out 1;have hfz13_2:=blk_frozen BK510.out 2))
   refine bodyPost_ret (results_ct rfl _ _ gb510 30 #[.int .i64 t511,.bool t512,.int .i64 t513] (0,0) _ rfl (by (with_reducible repeat (first | refine blk_drewN ?_ _ | refine blk_drew ?_ | refine blk_alloc ?_ _));refine blk_put (cs:=#[.int .i64 t511,.bool t512,.int .i64 0]) ?_ 2 _ rfl;(with_reducible repeat (first | refine blk_drewN ?_ _ | refine blk_drew ?_ | refine blk_alloc ?_ _));refine blk_put (cs:=#[.int .i64 t511,.bool false,.int .i64 0]) ?_ 1 _ rfl;(with_reducible repeat (first | refine blk_drewN ?_ _ | refine blk_drew ?_ | refine blk_alloc ?_ _));refine blk_put (cs:=#[.int .i64 0,.bool false,.int .i64 0]) ?_ 0 _ rfl;(with_reducible repeat (first | refine blk_drewN ?_ _ | refine blk_drew ?_ | refine blk_alloc ?_ _));refine blk_far ?_ NB510_515.out _;(with_reducible repeat (first | refine blk_drewN ?_ _ | refine blk_drew ?_ | refine blk_alloc ?_ _));refine blk_far ?_ NB510_515.out _;(with_reducible repeat (first | refine blk_drewN ?_ _ | refine blk_drew ?_ | refine blk_alloc ?_ _));refine blk_far ?_ NB510_515.out _;(with_reducible repeat (first | refine blk_drewN ?_ _ | refine blk_drew ?_ | refine blk_alloc ?_ _));exact BK510.out) Tryz.underlying30 rfl (by kernel_rfl)) rfl ?_
   exact ⟨q74_,q48_⟩
  replace c8:=Bool.eq_false_iff.mpr c8
  subst c8
  rewrite [if_neg (show ¬ (false = true) by decide)] at H
  have H':=Aside0.mk H
  clear H
  go_wp2_with (first | ((with_reducible refine gate_callee (f:=66) rfl ?_);refine goesL_ (some 26) rfl rfl Tryz.func66 (by kernel_rfl) rfl #[.string a0] rfl q71_ ?_;(with_reducible refine (impl_wholeIns.calls kj1 a0 t511 t512 t513 false _ A7.out).mono ?_);rintro e w14 ⟨rfl,hb⟩;refine ⟨_,rfl,?_⟩;have n0_:=Aside0.mk (blk_below (g:=gb510) (o:=.cells #[.int .i64 0,.bool false,.int .i64 0] 30 (0,0)) q81_ hb);have n1_:=Aside0.mk (below_step q61_ hb);clear BK510;clear HB;have BK510:=n0_;have HB:=n1_;clear n0_ n1_;(try clear hb)) | ((with_reducible refine gate_dst (N:=4) rfl ?_);refine box_event ?hg (N:=4) ?hd (cs:=#[.int .i64 0,.bool false,.int .i64 0]) (t:=30) ?hr ?_;(case hd => rfl);(case hg => rfl);(case hr => exact q139_);intro gb515 hg w15 hbox hb;have n0_:=Aside0.mk (blk_below (g:=gb510) (o:=.cells #[.int .i64 0,.bool false,.int .i64 0] 30 (0,0)) q81_ hb);have n1_:=Aside0.mk (below_step q61_ hb);have n2_:=Aside0.mk (hbox);have n3_:=Aside0.mk ((q45_:w.heap.size ≤ gb515));have n4_:=Aside0.mk ((q45_:w.heap.size ≤ gb515));have n5_:=Aside0.mk ((q28_:gb510 ≠ gb515));have n6_:=Aside0.mk ((q29_:gb515 ≠ gb510));clear BK510;clear HB;have BK510:=n0_;have HB:=n1_;have BK515:=n2_;have GW515:=n3_;have GE515:=n4_;have NB510_515:=n5_;have NB515_510:=n6_;clear n0_ n1_ n2_ n3_ n4_ n5_ n6_;clear hb hbox hg;have hnb16:=NB515_510.out;have hnc16:=NB510_515.out;have hcz17_0:w15.cell? ⟨gb515,0,none⟩ = some (.int .i64 0):=(blk_cell BK515.out 0).trans rfl;have hcz17_1:w15.cell? ⟨gb515,1,none⟩ = some (.bool false):=(blk_cell BK515.out 1).trans rfl;have hcz17_2:w15.cell? ⟨gb515,2,none⟩ = some (.int .i64 0):=(blk_cell BK515.out 2).trans rfl;have hfz17_0:=blk_frozen BK515.out 0;have hfz17_1:=blk_frozen BK515.out 1;have hfz17_2:=blk_frozen BK515.out 2))
  go_loopg [31] kj1 (fun kq v31 w' => ∃ (x31_2:Int) (x511000_2:Int) (x511001_2:Bool) (x511002_2:Int),v31 = .int .i64 x31_2 ∧ Aside0 (impl_ReadInsText.l0 kq a0 x31_2 = some (r1,r2,r3,r4)) ∧ Aside0 (kq ≤ kj1) ∧ Aside0 (w'.heap[gb510]? = some (.cells #[.int .i64 x511000_2,.bool x511001_2,.int .i64 x511002_2] 30 (0,0))) ∧ Aside0 (w'.heap[gb515]? = some (.cells #[.int .i64 t511,.bool t512,.int .i64 t513] 30 (0,0))) ∧ Aside0 (Below w.heap.size w w'))
  case atStart => exact ⟨(0),(0),(false),(0),q92_,H',⟨Nat.le_refl _⟩,⟨by (with_reducible repeat (first | refine blk_drewN ?_ _ | refine blk_drew ?_ | refine blk_alloc ?_ _));refine blk_far ?_ NB510_515.out _;(with_reducible repeat (first | refine blk_drewN ?_ _ | refine blk_drew ?_ | refine blk_alloc ?_ _));refine blk_far ?_ NB510_515.out _;(with_reducible repeat (first | refine blk_drewN ?_ _ | refine blk_drew ?_ | refine blk_alloc ?_ _));refine blk_far ?_ NB510_515.out _;(with_reducible repeat (first | refine blk_drewN ?_ _ | refine blk_drew ?_ | refine blk_alloc ?_ _));exact BK510.out⟩,⟨by (with_reducible repeat (first | refine blk_drewN ?_ _ | refine blk_drew ?_ | refine blk_alloc ?_ _));refine blk_put (cs:=#[.int .i64 t511,.bool t512,.int .i64 0]) ?_ 2 _ rfl;(with_reducible repeat (first | refine blk_drewN ?_ _ | refine blk_drew ?_ | refine blk_alloc ?_ _));refine blk_put (cs:=#[.int .i64 t511,.bool false,.int .i64 0]) ?_ 1 _ rfl;(with_reducible repeat (first | refine blk_drewN ?_ _ | refine blk_drew ?_ | refine blk_alloc ?_ _));refine blk_put (cs:=#[.int .i64 0,.bool false,.int .i64 0]) ?_ 0 _ rfl;(with_reducible repeat (first | refine blk_drewN ?_ _ | refine blk_drew ?_ | refine blk_alloc ?_ _));exact BK515.out⟩,⟨q48_⟩⟩
  clear H'
  try clear c1
  try clear c2
  try clear p2 p2
  try clear c4
  try clear c4b0
  try clear c4b1
  try clear c5
  try clear c6
  try clear p6
  try clear c8
  try clear c11
  try clear c16
  try clear hcz12_0 hcz12_1 hcz12_2
  try clear hcz13_0 hcz13_1 hcz13_2
  try clear hcz17_0 hcz17_1 hcz17_2
  try clear hcz6_0 hcz6_1 hcz6_2
  try clear hfz12_0 hfz12_1 hfz12_2
  try clear hfz13_0 hfz13_1 hfz13_2
  try clear hfz17_0 hfz17_1 hfz17_2
  try clear hfz6_0 hfz6_1 hfz6_2
  obtain ⟨x31_2,x511000_2,x511001_2,x511002_2,rfl,HA,HK2,BK510,BK515,HB⟩:=hrel
  cases gk with
  | zero => exact absurd HA.out (by simp [impl_ReadInsText.l0])
  | succ k2 =>
   have H:=HA.out
   clear HA
   simp only [impl_ReadInsText.l0] at H
   by_cases c18:x31_2 < 256
   ·rw [if_pos c18] at H
    have c18b0:=decide_eq_true c18
    clear c18
    replace H:=Option.bind_eq_some_iff.mp H
    obtain ⟨t516,A190,H⟩:=H
    have A19:=Aside0.mk A190
    clear A190
    replace H:=Option.bind_eq_some_iff.mp H
    obtain ⟨t517,A200,H⟩:=H
    have A20:=Aside0.mk A200
    clear A200
    by_cases c21:t517.toList = ([]:List UInt8)
    ·rw [if_pos c21] at H
     have c21b0:(t517.toList == ([]:List UInt8)) = true:=beq_iff_eq.mpr c21
     have c21b1:(t517.toList != ([]:List UInt8)) = false:=bne_eq_false_iff_eq.mpr c21
     have c21b9:t517.toList.isEmpty = true:=(isEmpty_beq _).trans c21b0
     clear c21
     have H':=Aside0.mk H
     clear H
     go_wp2_with (first | ((with_reducible refine gate_callee (f:=46) rfl ?_);refine goesL_ (some 35) rfl rfl Tryz.func46 (by kernel_rfl) rfl #[.int .i64 x31_2,.bool false] rfl q71_ ?_;(with_reducible refine (impl_TemplateOf.calls k2 x31_2 false t516 _ A19.out).mono ?_);rintro e w22 ⟨rfl,hb⟩;refine ⟨_,rfl,?_⟩;have n0_:=Aside0.mk (blk_below (g:=gb510) (o:=.cells #[.int .i64 x511000_2,.bool x511001_2,.int .i64 x511002_2] 30 (0,0)) q81_ hb);have n1_:=Aside0.mk (blk_below (g:=gb515) (o:=.cells #[.int .i64 t511,.bool t512,.int .i64 t513] 30 (0,0)) q82_ hb);have n2_:=Aside0.mk (below_step q48_ hb);clear BK510;clear BK515;clear HB;have BK510:=n0_;have BK515:=n1_;have HB:=n2_;clear n0_ n1_ n2_;(try clear hb)) | ((with_reducible refine gate_callee (f:=47) rfl ?_);refine goesL_ (some 37) rfl rfl Tryz.func47 (by kernel_rfl) rfl #[.string t516] rfl q71_ ?_;(with_reducible refine (impl_holeOf.calls k2 t516 t517 _ A20.out).mono ?_);rintro e w23 ⟨rfl,hb⟩;refine ⟨_,rfl,?_⟩;have n0_:=Aside0.mk (blk_below (g:=gb510) (o:=.cells #[.int .i64 x511000_2,.bool x511001_2,.int .i64 x511002_2] 30 (0,0)) q81_ hb);have n1_:=Aside0.mk (blk_below (g:=gb515) (o:=.cells #[.int .i64 t511,.bool t512,.int .i64 t513] 30 (0,0)) q82_ hb);have n2_:=Aside0.mk (below_step q48_ hb);clear BK510;clear BK515;clear HB;have BK510:=n0_;have BK515:=n1_;have HB:=n2_;clear n0_ n1_ n2_;(try clear hb)))
     go_roundg k2
     case measure => have:=HJ1.out;have:=HK2.out;omega
     case rel => exact ⟨(wrap64 (x31_2 + 1)),(x511000_2),(x511001_2),(x511002_2),q92_,H',⟨by have:=HJ1.out;have:=HK2.out;omega⟩,⟨q81_⟩,⟨q82_⟩,⟨q48_⟩⟩
    rw [if_neg c21] at H
    have c21b0:(t517.toList == ([]:List UInt8)) = false:=beq_eq_false_iff_ne.mpr c21
    have c21b1:(t517.toList != ([]:List UInt8)) = true:=bne_iff_ne.mpr c21
    have c21b9:t517.toList.isEmpty = false:=(isEmpty_beq _).trans c21b0
    replace H:=Option.bind_eq_some_iff.mp H
    obtain ⟨⟨t518,t519⟩,A240,H⟩:=H
    try dsimp -simprocs -eta only at H
    have A24:=Aside0.mk A240
    clear A240
    by_cases c25:t519 = true
    ·subst c25
     rewrite [if_pos rfl] at H
     replace H:=Option.bind_eq_some_iff.mp H
     obtain ⟨⟨t520,t521⟩,A260,H⟩:=H
     try dsimp -simprocs -eta only at H
     have A26:=Aside0.mk A260
     clear A260
     have HC27:=Aside0.mk H
     clear H
     go_upto_if 55 with (first | ((with_reducible refine gate_callee (f:=46) rfl ?_);refine goesL_ (some 35) rfl rfl Tryz.func46 (by kernel_rfl) rfl #[.int .i64 x31_2,.bool false] rfl q71_ ?_;(with_reducible refine (impl_TemplateOf.calls k2 x31_2 false t516 _ A19.out).mono ?_);rintro e w28 ⟨rfl,hb⟩;refine ⟨_,rfl,?_⟩;have n0_:=Aside0.mk (blk_below (g:=gb510) (o:=.cells #[.int .i64 x511000_2,.bool x511001_2,.int .i64 x511002_2] 30 (0,0)) q81_ hb);have n1_:=Aside0.mk (blk_below (g:=gb515) (o:=.cells #[.int .i64 t511,.bool t512,.int .i64 t513] 30 (0,0)) q82_ hb);have n2_:=Aside0.mk (below_step q48_ hb);clear BK510;clear BK515;clear HB;have BK510:=n0_;have BK515:=n1_;have HB:=n2_;clear n0_ n1_ n2_;(try clear hb)) | ((with_reducible refine gate_callee (f:=47) rfl ?_);refine goesL_ (some 37) rfl rfl Tryz.func47 (by kernel_rfl) rfl #[.string t516] rfl q71_ ?_;(with_reducible refine (impl_holeOf.calls k2 t516 t517 _ A20.out).mono ?_);rintro e w29 ⟨rfl,hb⟩;refine ⟨_,rfl,?_⟩;have n0_:=Aside0.mk (blk_below (g:=gb510) (o:=.cells #[.int .i64 x511000_2,.bool x511001_2,.int .i64 x511002_2] 30 (0,0)) q81_ hb);have n1_:=Aside0.mk (blk_below (g:=gb515) (o:=.cells #[.int .i64 t511,.bool t512,.int .i64 t513] 30 (0,0)) q82_ hb);have n2_:=Aside0.mk (below_step q48_ hb);clear BK510;clear BK515;clear HB;have BK510:=n0_;have BK515:=n1_;have HB:=n2_;clear n0_ n1_ n2_;(try clear hb)) | ((with_reducible refine gate_callee (f:=67) rfl ?_);refine goesL_ (some 44) rfl rfl Tryz.func67 (by kernel_rfl) rfl #[.string t516,.string t517,.string a0] rfl q71_ ?_;(with_reducible refine (impl_inHole.calls t516 t517 a0 t518 true _ A24.out).mono ?_);rintro e w' ⟨rfl,⟨nd,rfl⟩⟩;refine ⟨_,rfl,?_⟩) | ((with_reducible refine gate_callee (f:=68) rfl ?_);refine goesL_ (some 51) rfl rfl Tryz.func68 (by kernel_rfl) rfl #[.string t518] rfl q71_ ?_;(with_reducible refine (impl_ReadNum.calls k2 t518 t520 t521 _ A26.out).mono ?_);rintro e w' ⟨rfl,⟨nd,rfl⟩⟩;refine ⟨_,rfl,?_⟩))
     (try simp only [Act.put,List.setIfInBounds_toArray,List.set_cons_zero,List.set_cons_succ])
     go_cut [11,12] (fun v11 v12 wc => ∃ (kq:Nat) (x11_26:Int) (x12_26:Bool),v11 = .int .i64 x11_26 ∧ v12 = .bool x12_26 ∧ Aside0 (impl_ReadInsText.j2 kq a0 x31_2 x11_26 x12_26 x31_2 = some (r1,r2,r3,r4)) ∧ Aside0 (kq ≤ k2) ∧ Aside0 (wc.heap[gb510]? = some (.cells #[.int .i64 x511000_2,.bool x511001_2,.int .i64 x511002_2] 30 (0,0))) ∧ Aside0 (wc.heap[gb515]? = some (.cells #[.int .i64 t511,.bool t512,.int .i64 t513] 30 (0,0))) ∧ Aside0 (Below w.heap.size w wc))
     case first =>
      have H:=HC27.out
      clear HC27
      by_cases c30:t517.toList = ([101,56]:List UInt8)
      ·rw [if_pos c30] at H
       have c30b0:(t517.toList == ([101,56]:List UInt8)) = true:=beq_iff_eq.mpr c30
       have c30b1:(t517.toList != ([101,56]:List UInt8)) = false:=bne_eq_false_iff_eq.mpr c30
       clear c30
       (first | rw [c30b0] | (simp only [i64_w,i32_w];rw [c30b0]) | rw [c30b9] | skip)
       replace H:=Option.bind_eq_some_iff.mp H
       obtain ⟨⟨t522,t523⟩,A310,H⟩:=H
       try dsimp -simprocs -eta only at H
       have A31:=Aside0.mk A310
       clear A310
       rcases t523 with _ | q524
       ·have H1:((impl_within.f t522 (-128) 127).bind fun t525 => (impl_ReadInsText.j2 k2 a0 x31_2 (Go.bits .and .i64 t522 255) t525 x31_2)) = some (r1,r2,r3,r4):=by rw [if_pos (show (none:Option Int).isNone = true by rfl)] at H;exact H
        clear H
        have H:=H1
        clear H1
        try simp only [errW_none,errW_some]
        replace H:=Option.bind_eq_some_iff.mp H
        obtain ⟨t525,A320,H⟩:=H
        have A32:=Aside0.mk A320
        clear A320
        have H':=Aside0.mk H
        clear H
        go_wp2_with (first | ((with_reducible refine gate_callee (f:=69) rfl ?_);refine goesL_ (some 58) rfl rfl Tryz.func69 (by kernel_rfl) rfl #[.string t518,.int .i64 10,.int .i64 64] rfl q71_ ?_;(with_reducible refine (strconv_ParseInt.calls_none t518 10 64 t522 _ A31.out).mono ?_);rintro e w33 ⟨rfl,hb⟩;refine ⟨_,rfl,?_⟩;have n0_:=Aside0.mk (blk_below (g:=gb510) (o:=.cells #[.int .i64 x511000_2,.bool x511001_2,.int .i64 x511002_2] 30 (0,0)) q81_ hb);have n1_:=Aside0.mk (blk_below (g:=gb515) (o:=.cells #[.int .i64 t511,.bool t512,.int .i64 t513] 30 (0,0)) q82_ hb);have n2_:=Aside0.mk (below_step q48_ hb);clear BK510;clear BK515;clear HB;have BK510:=n0_;have BK515:=n1_;have HB:=n2_;clear n0_ n1_ n2_;(try clear hb);(try simp only [errW_none,errW_some])) | (go_at_call 61;(with_reducible refine (impl_within.calls t522 (-128) 127 t525 _ A32.out).mono ?_);rintro e w' ⟨rfl,⟨nd,rfl⟩⟩))
        go_meet
        case rel => exact ⟨_,(Go.bits .and .i64 t522 255),(t525),q92_,q92_,H',⟨q107_⟩,⟨q81_⟩,⟨q82_⟩,⟨q48_⟩⟩
       have H1:(impl_ReadInsText.j2 k2 a0 x31_2 (Go.bits .and .i64 t522 255) false x31_2) = some (r1,r2,r3,r4):=by rw [if_neg (show ¬ (some q524).isNone = true by simp)] at H;exact H
       clear H
       have H:=H1
       clear H1
       try simp only [errW_none,errW_some]
       have H':=Aside0.mk H
       clear H
       go_wp2_with (first | ((with_reducible refine gate_callee (f:=69) rfl ?_);refine goesL_ (some 58) rfl rfl Tryz.func69 (by kernel_rfl) rfl #[.string t518,.int .i64 10,.int .i64 64] rfl q71_ ?_;(with_reducible refine (strconv_ParseInt.calls_some t518 10 64 t522 q524 _ A31.out).mono ?_);rintro e w34 ⟨gN_,rfl,hb⟩;refine ⟨_,rfl,?_⟩;have n0_:=Aside0.mk (blk_below (g:=gb510) (o:=.cells #[.int .i64 x511000_2,.bool x511001_2,.int .i64 x511002_2] 30 (0,0)) q81_ hb);have n1_:=Aside0.mk (blk_below (g:=gb515) (o:=.cells #[.int .i64 t511,.bool t512,.int .i64 t513] 30 (0,0)) q82_ hb);have n2_:=Aside0.mk (below_step q48_ hb);clear BK510;clear BK515;clear HB;have BK510:=n0_;have BK515:=n1_;have HB:=n2_;clear n0_ n1_ n2_;(try clear hb);(try simp only [errW_none,errW_some])))
       go_meet
       case rel => exact ⟨_,(Go.bits .and .i64 t522 255),(false),q92_,q92_,H',⟨q107_⟩,⟨q81_⟩,⟨q82_⟩,⟨q48_⟩⟩
      rw [if_neg c30] at H
      have c30b0:(t517.toList == ([101,56]:List UInt8)) = false:=beq_eq_false_iff_ne.mpr c30
      have c30b1:(t517.toList != ([101,56]:List UInt8)) = true:=bne_iff_ne.mpr c30
      (first | rw [c30b0] | (simp only [i64_w,i32_w];rw [c30b0]) | rw [c30b9] | skip)
      have H':=Aside0.mk H
      clear H
      go_wp2
      go_meet
      case rel => exact ⟨_,(t520),(t521),q92_,q92_,H',⟨q107_⟩,⟨q81_⟩,⟨q82_⟩,⟨q48_⟩⟩
     clear HC27
     try clear c1
     try clear c2
     try clear p2 p2
     try clear c3
     try clear c4
     try clear c4b0
     try clear c4b1
     try clear c5
     try clear q5
     try clear c6
     try clear p6 p6
     try clear c8
     try clear c11
     try clear c16
     try clear c18
     try clear c18b0
     try clear c21
     try clear c21b0
     try clear c21b1
     try clear c25
     try clear c27
     try clear c30
     try clear c30b0
     try clear c30b1
     try clear hcz12_0 hcz12_1 hcz12_2
     try clear hcz13_0 hcz13_1 hcz13_2
     try clear hcz17_0 hcz17_1 hcz17_2
     try clear hcz6_0 hcz6_1 hcz6_2
     try clear hfz12_0 hfz12_1 hfz12_2
     try clear hfz13_0 hfz13_1 hfz13_2
     try clear hfz17_0 hfz17_1 hfz17_2
     try clear hfz6_0 hfz6_1 hfz6_2
     try clear q524
     obtain ⟨kq,x11_26,x12_26,rfl,rfl,HA,HJ26,BK510,BK515,HB⟩:=hcut
     cases kq with
     | zero => exact absurd HA.out (by simp [impl_ReadInsText.j2])
     | succ kj26 =>
      have H:=HA.out
      clear HA
      simp only [impl_ReadInsText.j2] at H
      by_cases c35:x12_26 = true
      ·subst c35
       rewrite [if_pos rfl] at H
       replace H:=Option.bind_eq_some_iff.mp H
       obtain ⟨t527,A360,H⟩:=H
       have A36:=Aside0.mk A360
       clear A360
       by_cases c37:t527.toList = a0.toList
       ·rw [if_pos c37] at H
        have c37b0:(t527.toList == a0.toList) = true:=beq_iff_eq.mpr c37
        have c37b1:(t527.toList != a0.toList) = false:=bne_eq_false_iff_eq.mpr c37
        clear c37
        simp only [Option.some.injEq,Prod.mk.injEq] at H
        obtain ⟨rfl,rfl,rfl,rfl⟩:=H
        go_wp2_with (first | ((with_reducible refine gate_dst (N:=15) rfl ?_);refine box_event ?hg (N:=15) ?hd (cs:=#[.int .i64 0,.bool false,.int .i64 0]) (t:=30) ?hr ?_;(case hd => rfl);(case hg => rfl);(case hr => exact q139_);intro gb526 hg w38 hbox hb;have n0_:=Aside0.mk (blk_below (g:=gb510) (o:=.cells #[.int .i64 x511000_2,.bool x511001_2,.int .i64 x511002_2] 30 (0,0)) q81_ hb);have n1_:=Aside0.mk (blk_below (g:=gb515) (o:=.cells #[.int .i64 t511,.bool t512,.int .i64 t513] 30 (0,0)) q82_ hb);have n2_:=Aside0.mk (below_step q48_ hb);have n3_:=Aside0.mk (hbox);have n4_:=Aside0.mk ((q31_:w.heap.size ≤ gb526));have n5_:=Aside0.mk ((q31_:w.heap.size ≤ gb526));have n6_:=Aside0.mk ((q15_:gb510 ≠ gb526));have n7_:=Aside0.mk ((q16_:gb526 ≠ gb510));have n8_:=Aside0.mk ((q19_:gb515 ≠ gb526));have n9_:=Aside0.mk ((q20_:gb526 ≠ gb515));clear BK510;clear BK515;clear HB;have BK510:=n0_;have BK515:=n1_;have HB:=n2_;have BK526:=n3_;have GW526:=n4_;have GE526:=n5_;have NB510_526:=n6_;have NB526_510:=n7_;have NB515_526:=n8_;have NB526_515:=n9_;clear n0_ n1_ n2_ n3_ n4_ n5_ n6_ n7_ n8_ n9_;clear hb hbox hg;have hnb39:=NB526_510.out;have hnc39:=NB510_526.out;have hnb40:=NB526_515.out;have hnc40:=NB515_526.out;have hcz41_0:w38.cell? ⟨gb526,0,none⟩ = some (.int .i64 0):=(blk_cell BK526.out 0).trans rfl;have hcz41_1:w38.cell? ⟨gb526,1,none⟩ = some (.bool false):=(blk_cell BK526.out 1).trans rfl;have hcz41_2:w38.cell? ⟨gb526,2,none⟩ = some (.int .i64 0):=(blk_cell BK526.out 2).trans rfl;have hfz41_0:=blk_frozen BK526.out 0;have hfz41_1:=blk_frozen BK526.out 1;have hfz41_2:=blk_frozen BK526.out 2) | (go_at_call 26;(with_reducible refine (impl_InsText.calls kj26 x31_2 false x11_26 t527 _ A36.out).mono ?_);rintro e w42 ⟨rfl,hb⟩;have n0_:=Aside0.mk (blk_below (g:=gb510) (o:=.cells #[.int .i64 x511000_2,.bool x511001_2,.int .i64 x511002_2] 30 (0,0)) q4_ hb);have n1_:=Aside0.mk (blk_below (g:=gb515) (o:=.cells #[.int .i64 t511,.bool t512,.int .i64 t513] 30 (0,0)) q5_ hb);have n2_:=Aside0.mk (blk_below (g:=gb526) (o:=.cells #[.int .i64 x31_2,.bool false,.int .i64 x11_26] 30 (0,0)) q1_ hb);have n3_:=Aside0.mk (below_step q33_ hb);clear BK510;clear BK515;clear BK526;clear HB;have BK510:=n0_;have BK515:=n1_;have BK526:=n2_;have HB:=n3_;clear n0_ n1_ n2_ n3_;(try clear hb);have hcz43_0:w42.cell? ⟨gb526,0,none⟩ = some (.int .i64 x31_2):=(blk_cell BK526.out 0).trans rfl;have hcz43_1:w42.cell? ⟨gb526,1,none⟩ = some (.bool false):=(blk_cell BK526.out 1).trans rfl;have hcz43_2:w42.cell? ⟨gb526,2,none⟩ = some (.int .i64 x11_26):=(blk_cell BK526.out 2).trans rfl;have hfz43_0:=blk_frozen BK526.out 0;have hfz43_1:=blk_frozen BK526.out 1;have hfz43_2:=blk_frozen BK526.out 2;have hnb44:=NB510_515.out;have hnc44:=NB515_510.out;have hcz45_0:w42.cell? ⟨gb510,0,none⟩ = some (.int .i64 x511000_2):=(blk_cell BK510.out 0).trans rfl;have hcz45_1:w42.cell? ⟨gb510,1,none⟩ = some (.bool x511001_2):=(blk_cell BK510.out 1).trans rfl;have hcz45_2:w42.cell? ⟨gb510,2,none⟩ = some (.int .i64 x511002_2):=(blk_cell BK510.out 2).trans rfl;have hfz45_0:=blk_frozen BK510.out 0;have hfz45_1:=blk_frozen BK510.out 1;have hfz45_2:=blk_frozen BK510.out 2))
        refine bodyPost_ret (results_ct rfl _ _ gb510 30 #[.int .i64 x31_2,.bool false,.int .i64 x11_26] (0,0) _ rfl (by (with_reducible repeat (first | refine blk_drewN ?_ _ | refine blk_drew ?_ | refine blk_alloc ?_ _));refine blk_put (cs:=#[.int .i64 x31_2,.bool false,.int .i64 x511002_2]) ?_ 2 _ rfl;(with_reducible repeat (first | refine blk_drewN ?_ _ | refine blk_drew ?_ | refine blk_alloc ?_ _));refine blk_put (cs:=#[.int .i64 x31_2,.bool x511001_2,.int .i64 x511002_2]) ?_ 1 _ rfl;(with_reducible repeat (first | refine blk_drewN ?_ _ | refine blk_drew ?_ | refine blk_alloc ?_ _));refine blk_put (cs:=#[.int .i64 x511000_2,.bool x511001_2,.int .i64 x511002_2]) ?_ 0 _ rfl;(with_reducible repeat (first | refine blk_drewN ?_ _ | refine blk_drew ?_ | refine blk_alloc ?_ _));exact BK510.out) Tryz.underlying30 rfl (by kernel_rfl)) rfl ?_
        exact ⟨q74_,q33_⟩
       rw [if_neg c37] at H
       have c37b0:(t527.toList == a0.toList) = false:=beq_eq_false_iff_ne.mpr c37
       have c37b1:(t527.toList != a0.toList) = true:=bne_iff_ne.mpr c37
       have H':=Aside0.mk H
       clear H
       go_wp2_with (first | ((with_reducible refine gate_dst (N:=15) rfl ?_);refine box_event ?hg (N:=15) ?hd (cs:=#[.int .i64 0,.bool false,.int .i64 0]) (t:=30) ?hr ?_;(case hd => rfl);(case hg => rfl);(case hr => exact q139_);intro gb526 hg w46 hbox hb;have n0_:=Aside0.mk (blk_below (g:=gb510) (o:=.cells #[.int .i64 x511000_2,.bool x511001_2,.int .i64 x511002_2] 30 (0,0)) q81_ hb);have n1_:=Aside0.mk (blk_below (g:=gb515) (o:=.cells #[.int .i64 t511,.bool t512,.int .i64 t513] 30 (0,0)) q82_ hb);have n2_:=Aside0.mk (below_step q48_ hb);have n3_:=Aside0.mk (hbox);have n4_:=Aside0.mk ((q31_:w.heap.size ≤ gb526));have n5_:=Aside0.mk ((q31_:w.heap.size ≤ gb526));have n6_:=Aside0.mk ((q15_:gb510 ≠ gb526));have n7_:=Aside0.mk ((q16_:gb526 ≠ gb510));have n8_:=Aside0.mk ((q19_:gb515 ≠ gb526));have n9_:=Aside0.mk ((q20_:gb526 ≠ gb515));clear BK510;clear BK515;clear HB;have BK510:=n0_;have BK515:=n1_;have HB:=n2_;have BK526:=n3_;have GW526:=n4_;have GE526:=n5_;have NB510_526:=n6_;have NB526_510:=n7_;have NB515_526:=n8_;have NB526_515:=n9_;clear n0_ n1_ n2_ n3_ n4_ n5_ n6_ n7_ n8_ n9_;clear hb hbox hg;have hnb47:=NB526_510.out;have hnc47:=NB510_526.out;have hnb48:=NB526_515.out;have hnc48:=NB515_526.out;have hcz49_0:w46.cell? ⟨gb526,0,none⟩ = some (.int .i64 0):=(blk_cell BK526.out 0).trans rfl;have hcz49_1:w46.cell? ⟨gb526,1,none⟩ = some (.bool false):=(blk_cell BK526.out 1).trans rfl;have hcz49_2:w46.cell? ⟨gb526,2,none⟩ = some (.int .i64 0):=(blk_cell BK526.out 2).trans rfl;have hfz49_0:=blk_frozen BK526.out 0;have hfz49_1:=blk_frozen BK526.out 1;have hfz49_2:=blk_frozen BK526.out 2) | (go_at_call 26;(with_reducible refine (impl_InsText.calls kj26 x31_2 false x11_26 t527 _ A36.out).mono ?_);rintro e w50 ⟨rfl,hb⟩;have n0_:=Aside0.mk (blk_below (g:=gb510) (o:=.cells #[.int .i64 x511000_2,.bool x511001_2,.int .i64 x511002_2] 30 (0,0)) q4_ hb);have n1_:=Aside0.mk (blk_below (g:=gb515) (o:=.cells #[.int .i64 t511,.bool t512,.int .i64 t513] 30 (0,0)) q5_ hb);have n2_:=Aside0.mk (blk_below (g:=gb526) (o:=.cells #[.int .i64 x31_2,.bool false,.int .i64 x11_26] 30 (0,0)) q1_ hb);have n3_:=Aside0.mk (below_step q33_ hb);clear BK510;clear BK515;clear BK526;clear HB;have BK510:=n0_;have BK515:=n1_;have BK526:=n2_;have HB:=n3_;clear n0_ n1_ n2_ n3_;(try clear hb)))
       go_roundg kj26
       case measure => have:=HJ1.out;have:=HK2.out;have:=HJ26.out;omega
       case rel => exact ⟨(wrap64 (x31_2 + 1)),(x511000_2),(x511001_2),(x511002_2),q92_,H',⟨by have:=HJ1.out;have:=HK2.out;have:=HJ26.out;omega⟩,⟨q81_⟩,⟨q82_⟩,⟨q33_⟩⟩
      replace c35:=Bool.eq_false_iff.mpr c35
      subst c35
      rewrite [if_neg (show ¬ (false = true) by decide)] at H
      have H':=Aside0.mk H
      clear H
      go_wp2_with (first | ((with_reducible refine gate_dst (N:=15) rfl ?_);refine box_event ?hg (N:=15) ?hd (cs:=#[.int .i64 0,.bool false,.int .i64 0]) (t:=30) ?hr ?_;(case hd => rfl);(case hg => rfl);(case hr => exact q139_);intro gb526 hg w51 hbox hb;have n0_:=Aside0.mk (blk_below (g:=gb510) (o:=.cells #[.int .i64 x511000_2,.bool x511001_2,.int .i64 x511002_2] 30 (0,0)) q81_ hb);have n1_:=Aside0.mk (blk_below (g:=gb515) (o:=.cells #[.int .i64 t511,.bool t512,.int .i64 t513] 30 (0,0)) q82_ hb);have n2_:=Aside0.mk (below_step q48_ hb);have n3_:=Aside0.mk (hbox);have n4_:=Aside0.mk ((q31_:w.heap.size ≤ gb526));have n5_:=Aside0.mk ((q31_:w.heap.size ≤ gb526));have n6_:=Aside0.mk ((q15_:gb510 ≠ gb526));have n7_:=Aside0.mk ((q16_:gb526 ≠ gb510));have n8_:=Aside0.mk ((q19_:gb515 ≠ gb526));have n9_:=Aside0.mk ((q20_:gb526 ≠ gb515));clear BK510;clear BK515;clear HB;have BK510:=n0_;have BK515:=n1_;have HB:=n2_;have BK526:=n3_;have GW526:=n4_;have GE526:=n5_;have NB510_526:=n6_;have NB526_510:=n7_;have NB515_526:=n8_;have NB526_515:=n9_;clear n0_ n1_ n2_ n3_ n4_ n5_ n6_ n7_ n8_ n9_;clear hb hbox hg;have hnb52:=NB526_510.out;have hnc52:=NB510_526.out;have hnb53:=NB526_515.out;have hnc53:=NB515_526.out;have hcz54_0:w51.cell? ⟨gb526,0,none⟩ = some (.int .i64 0):=(blk_cell BK526.out 0).trans rfl;have hcz54_1:w51.cell? ⟨gb526,1,none⟩ = some (.bool false):=(blk_cell BK526.out 1).trans rfl;have hcz54_2:w51.cell? ⟨gb526,2,none⟩ = some (.int .i64 0):=(blk_cell BK526.out 2).trans rfl;have hfz54_0:=blk_frozen BK526.out 0;have hfz54_1:=blk_frozen BK526.out 1;have hfz54_2:=blk_frozen BK526.out 2))
      go_roundg kj26
      case measure => have:=HJ1.out;have:=HK2.out;have:=HJ26.out;omega
      case rel => exact ⟨(wrap64 (x31_2 + 1)),(x511000_2),(x511001_2),(x511002_2),q92_,H',⟨by have:=HJ1.out;have:=HK2.out;have:=HJ26.out;omega⟩,⟨q4_⟩,⟨q5_⟩,⟨q33_⟩⟩
    replace c25:=Bool.eq_false_iff.mpr c25
    subst c25
    rewrite [if_neg (show ¬ (false = true) by decide)] at H
    have H':=Aside0.mk H
    clear H
    go_wp2_with (first | ((with_reducible refine gate_callee (f:=46) rfl ?_);refine goesL_ (some 35) rfl rfl Tryz.func46 (by kernel_rfl) rfl #[.int .i64 x31_2,.bool false] rfl q71_ ?_;(with_reducible refine (impl_TemplateOf.calls k2 x31_2 false t516 _ A19.out).mono ?_);rintro e w55 ⟨rfl,hb⟩;refine ⟨_,rfl,?_⟩;have n0_:=Aside0.mk (blk_below (g:=gb510) (o:=.cells #[.int .i64 x511000_2,.bool x511001_2,.int .i64 x511002_2] 30 (0,0)) q81_ hb);have n1_:=Aside0.mk (blk_below (g:=gb515) (o:=.cells #[.int .i64 t511,.bool t512,.int .i64 t513] 30 (0,0)) q82_ hb);have n2_:=Aside0.mk (below_step q48_ hb);clear BK510;clear BK515;clear HB;have BK510:=n0_;have BK515:=n1_;have HB:=n2_;clear n0_ n1_ n2_;(try clear hb)) | ((with_reducible refine gate_callee (f:=47) rfl ?_);refine goesL_ (some 37) rfl rfl Tryz.func47 (by kernel_rfl) rfl #[.string t516] rfl q71_ ?_;(with_reducible refine (impl_holeOf.calls k2 t516 t517 _ A20.out).mono ?_);rintro e w56 ⟨rfl,hb⟩;refine ⟨_,rfl,?_⟩;have n0_:=Aside0.mk (blk_below (g:=gb510) (o:=.cells #[.int .i64 x511000_2,.bool x511001_2,.int .i64 x511002_2] 30 (0,0)) q81_ hb);have n1_:=Aside0.mk (blk_below (g:=gb515) (o:=.cells #[.int .i64 t511,.bool t512,.int .i64 t513] 30 (0,0)) q82_ hb);have n2_:=Aside0.mk (below_step q48_ hb);clear BK510;clear BK515;clear HB;have BK510:=n0_;have BK515:=n1_;have HB:=n2_;clear n0_ n1_ n2_;(try clear hb)) | ((with_reducible refine gate_callee (f:=67) rfl ?_);refine goesL_ (some 44) rfl rfl Tryz.func67 (by kernel_rfl) rfl #[.string t516,.string t517,.string a0] rfl q71_ ?_;(with_reducible refine (impl_inHole.calls t516 t517 a0 t518 false _ A24.out).mono ?_);rintro e w' ⟨rfl,⟨nd,rfl⟩⟩;refine ⟨_,rfl,?_⟩))
    go_roundg k2
    case measure => have:=HJ1.out;have:=HK2.out;omega
    case rel => exact ⟨(wrap64 (x31_2 + 1)),(x511000_2),(x511001_2),(x511002_2),q92_,H',⟨by have:=HJ1.out;have:=HK2.out;omega⟩,⟨q81_⟩,⟨q82_⟩,⟨q48_⟩⟩
   rw [if_neg c18] at H
   have c18b0:=decide_eq_false c18
   clear c18
   simp only [Option.some.injEq,Prod.mk.injEq] at H
   obtain ⟨rfl,rfl,rfl,rfl⟩:=H
   have hnb57:=NB510_515.out
   have hnc57:=NB515_510.out
   have hcz58_0:wr.cell? ⟨gb510,0,none⟩ = some (.int .i64 x511000_2):=bz_ BK510 0
   have hcz58_1:wr.cell? ⟨gb510,1,none⟩ = some (.bool x511001_2):=bz_ BK510 1
   have hcz58_2:wr.cell? ⟨gb510,2,none⟩ = some (.int .i64 x511002_2):=bz_ BK510 2
   have hfz58_0:=blk_frozen BK510.out 0
   have hfz58_1:=blk_frozen BK510.out 1
   have hfz58_2:=blk_frozen BK510.out 2
   go_wp2
   refine bodyPost_ret (results_ct rfl _ _ gb510 30 #[.int .i64 0,.bool false,.int .i64 0] (0,0) _ rfl (by (with_reducible repeat (first | refine blk_drewN ?_ _ | refine blk_drew ?_ | refine blk_alloc ?_ _));refine blk_put (cs:=#[.int .i64 0,.bool false,.int .i64 x511002_2]) ?_ 2 _ rfl;(with_reducible repeat (first | refine blk_drewN ?_ _ | refine blk_drew ?_ | refine blk_alloc ?_ _));refine blk_put (cs:=#[.int .i64 0,.bool x511001_2,.int .i64 x511002_2]) ?_ 1 _ rfl;(with_reducible repeat (first | refine blk_drewN ?_ _ | refine blk_drew ?_ | refine blk_alloc ?_ _));refine blk_put (cs:=#[.int .i64 x511000_2,.bool x511001_2,.int .i64 x511002_2]) ?_ 0 _ rfl;(with_reducible repeat (first | refine blk_drewN ?_ _ | refine blk_drew ?_ | refine blk_alloc ?_ _));exact BK510.out) Tryz.underlying30 rfl (by kernel_rfl)) rfl ?_
   exact ⟨q74_,q48_⟩
def spec_l3Length.f (k:Nat) (a0:Int) (a1:Bool):Option (Int):=(spec_l3Template.f k a0 a1).bind fun t528 => (if t528.toList = ([]:List UInt8) then (some 0) else (if a1 = true then (some 2) else ((spec_l3Hole.f k t528).bind fun bt529 => (if bt529.2.toList = ([]:List UInt8) then (some 1) else (if bt529.2.toList = ([110,49,54]:List UInt8) then (some 3) else (some 2))))))
theorem spec_l3Length.calls (k:Nat) (a0:Int) (a1:Bool) (r:Int) (w:World) (h:spec_l3Length.f k a0 a1 = some r) :
  Calls Tryz.prog 52 #[.int .i64 a0,.bool a1] w fun e w' => e = .returned (.int .i64 r) ∧ Below w.heap.size w w':=by
 have HB:=Aside0.mk (Below.refl w.heap.size w)
 have H:=h;unfold spec_l3Length.f at H
 clear h
 replace H:=Option.bind_eq_some_iff.mp H
 obtain ⟨t528,A30,H⟩:=H
 have A3:=Aside0.mk A30
 clear A30
 by_cases c4:t528.toList = ([]:List UInt8)
 ·rw [if_pos c4] at H
  have c4b0:(t528.toList == ([]:List UInt8)) = true:=beq_iff_eq.mpr c4
  have c4b1:(t528.toList != ([]:List UInt8)) = false:=bne_eq_false_iff_eq.mpr c4
  have c4b9:t528.toList.isEmpty = true:=(isEmpty_beq _).trans c4b0
  clear c4
  obtain rfl:=Option.some.inj H
  go_enter Tryz.func52,Tryz.ntmps52
  go_wp2_with (first | ((with_reducible refine gate_callee (f:=60) rfl ?_);refine goesL_ (some 10) rfl rfl Tryz.func60 (by kernel_rfl) rfl #[.int .i64 a0,.bool a1] rfl q71_ ?_;(with_reducible refine (spec_l3Template.calls k a0 a1 t528 _ A3.out).mono ?_);rintro e w5 ⟨rfl,hb⟩;refine ⟨_,rfl,?_⟩;replace HB:=Aside0.mk (below_step q72_ hb);(try clear hb)))
  go_ret
  exact ⟨q74_,q72_⟩
 rw [if_neg c4] at H
 have c4b0:(t528.toList == ([]:List UInt8)) = false:=beq_eq_false_iff_ne.mpr c4
 have c4b1:(t528.toList != ([]:List UInt8)) = true:=bne_iff_ne.mpr c4
 have c4b9:t528.toList.isEmpty = false:=(isEmpty_beq _).trans c4b0
 by_cases c6:a1 = true
 ·subst c6
  rewrite [if_pos rfl] at H
  obtain rfl:=Option.some.inj H
  go_enter Tryz.func52,Tryz.ntmps52
  go_wp2_with (first | ((with_reducible refine gate_callee (f:=60) rfl ?_);refine goesL_ (some 10) rfl rfl Tryz.func60 (by kernel_rfl) rfl #[.int .i64 a0,.bool true] rfl q71_ ?_;(with_reducible refine (spec_l3Template.calls k a0 true t528 _ A3.out).mono ?_);rintro e w7 ⟨rfl,hb⟩;refine ⟨_,rfl,?_⟩;replace HB:=Aside0.mk (below_step q72_ hb);(try clear hb)))
  go_ret
  exact ⟨q74_,q72_⟩
 replace c6:=Bool.eq_false_iff.mpr c6
 subst c6
 rewrite [if_neg (show ¬ (false = true) by decide)] at H
 replace H:=Option.bind_eq_some_iff.mp H
 obtain ⟨⟨t529,t530⟩,A80,H⟩:=H
 try dsimp -simprocs -eta only at H
 have A8:=Aside0.mk A80
 clear A80
 by_cases c9:t530.toList = ([]:List UInt8)
 ·rw [if_pos c9] at H
  have c9b0:(t530.toList == ([]:List UInt8)) = true:=beq_iff_eq.mpr c9
  have c9b1:(t530.toList != ([]:List UInt8)) = false:=bne_eq_false_iff_eq.mpr c9
  have c9b9:t530.toList.isEmpty = true:=(isEmpty_beq _).trans c9b0
  clear c9
  obtain rfl:=Option.some.inj H
  go_enter Tryz.func52,Tryz.ntmps52
  go_wp2_with (first | ((with_reducible refine gate_callee (f:=60) rfl ?_);refine goesL_ (some 10) rfl rfl Tryz.func60 (by kernel_rfl) rfl #[.int .i64 a0,.bool false] rfl q71_ ?_;(with_reducible refine (spec_l3Template.calls k a0 false t528 _ A3.out).mono ?_);rintro e w10 ⟨rfl,hb⟩;refine ⟨_,rfl,?_⟩;replace HB:=Aside0.mk (below_step q72_ hb);(try clear hb)) | ((with_reducible refine gate_callee (f:=59) rfl ?_);refine goesL_ (some 16) rfl rfl Tryz.func59 (by kernel_rfl) rfl #[.string t528] rfl q71_ ?_;(with_reducible refine (spec_l3Hole.calls k t528 t529 t530 _ A8.out).mono ?_);rintro e w11 ⟨rfl,hb⟩;refine ⟨_,rfl,?_⟩;replace HB:=Aside0.mk (below_step q72_ hb);(try clear hb)))
  go_ret
  exact ⟨q74_,q72_⟩
 rw [if_neg c9] at H
 have c9b0:(t530.toList == ([]:List UInt8)) = false:=beq_eq_false_iff_ne.mpr c9
 have c9b1:(t530.toList != ([]:List UInt8)) = true:=bne_iff_ne.mpr c9
 have c9b9:t530.toList.isEmpty = false:=(isEmpty_beq _).trans c9b0
 by_cases c12:t530.toList = ([110,49,54]:List UInt8)
 ·rw [if_pos c12] at H
  have c12b0:(t530.toList == ([110,49,54]:List UInt8)) = true:=beq_iff_eq.mpr c12
  have c12b1:(t530.toList != ([110,49,54]:List UInt8)) = false:=bne_eq_false_iff_eq.mpr c12
  clear c12
  obtain rfl:=Option.some.inj H
  go_enter Tryz.func52,Tryz.ntmps52
  go_wp2_with (first | ((with_reducible refine gate_callee (f:=60) rfl ?_);refine goesL_ (some 10) rfl rfl Tryz.func60 (by kernel_rfl) rfl #[.int .i64 a0,.bool false] rfl q71_ ?_;(with_reducible refine (spec_l3Template.calls k a0 false t528 _ A3.out).mono ?_);rintro e w13 ⟨rfl,hb⟩;refine ⟨_,rfl,?_⟩;replace HB:=Aside0.mk (below_step q72_ hb);(try clear hb)) | ((with_reducible refine gate_callee (f:=59) rfl ?_);refine goesL_ (some 16) rfl rfl Tryz.func59 (by kernel_rfl) rfl #[.string t528] rfl q71_ ?_;(with_reducible refine (spec_l3Hole.calls k t528 t529 t530 _ A8.out).mono ?_);rintro e w14 ⟨rfl,hb⟩;refine ⟨_,rfl,?_⟩;replace HB:=Aside0.mk (below_step q72_ hb);(try clear hb)))
  go_ret
  exact ⟨q74_,q72_⟩
 rw [if_neg c12] at H
 have c12b0:(t530.toList == ([110,49,54]:List UInt8)) = false:=beq_eq_false_iff_ne.mpr c12
 have c12b1:(t530.toList != ([110,49,54]:List UInt8)) = true:=bne_iff_ne.mpr c12
 obtain rfl:=Option.some.inj H
 go_enter Tryz.func52,Tryz.ntmps52
 go_wp2_with (first | ((with_reducible refine gate_callee (f:=60) rfl ?_);refine goesL_ (some 10) rfl rfl Tryz.func60 (by kernel_rfl) rfl #[.int .i64 a0,.bool false] rfl q71_ ?_;(with_reducible refine (spec_l3Template.calls k a0 false t528 _ A3.out).mono ?_);rintro e w15 ⟨rfl,hb⟩;refine ⟨_,rfl,?_⟩;replace HB:=Aside0.mk (below_step q72_ hb);(try clear hb)) | ((with_reducible refine gate_callee (f:=59) rfl ?_);refine goesL_ (some 16) rfl rfl Tryz.func59 (by kernel_rfl) rfl #[.string t528] rfl q71_ ?_;(with_reducible refine (spec_l3Hole.calls k t528 t529 t530 _ A8.out).mono ?_);rintro e w16 ⟨rfl,hb⟩;refine ⟨_,rfl,?_⟩;replace HB:=Aside0.mk (below_step q72_ hb);(try clear hb)))
 go_ret
 exact ⟨q74_,q72_⟩
def spec_LengthOf.f (k:Nat) (a0:Int) (a1:Bool):Option (Int):=(spec_l1In.f a0 0 255).bind fun t531 => (if t531 = true then ((spec_l3Length.f k a0 a1).bind fun t532 => (some t532)) else (some 0))
theorem spec_LengthOf.calls (k:Nat) (a0:Int) (a1:Bool) (r:Int) (w:World) (h:spec_LengthOf.f k a0 a1 = some r) :
  Calls Tryz.prog 15 #[.int .i64 a0,.bool a1] w fun e w' => e = .returned (.int .i64 r) ∧ Below w.heap.size w w':=by
 have HB:=Aside0.mk (Below.refl w.heap.size w)
 have H:=h;unfold spec_LengthOf.f at H
 clear h
 replace H:=Option.bind_eq_some_iff.mp H
 obtain ⟨t531,A30,H⟩:=H
 have A3:=Aside0.mk A30
 clear A30
 by_cases c4:t531 = true
 ·subst c4
  rewrite [if_pos rfl] at H
  replace H:=Option.bind_eq_some_iff.mp H
  obtain ⟨t532,A50,H⟩:=H
  have A5:=Aside0.mk A50
  clear A50
  obtain rfl:=Option.some.inj H
  go_enter Tryz.func15,Tryz.ntmps15
  go_wp2_with (first | ((with_reducible refine gate_callee (f:=51) rfl ?_);refine goesL_ (some 6) rfl rfl Tryz.func51 (by kernel_rfl) rfl #[.int .i64 a0,.int .i64 0,.int .i64 255] rfl q71_ ?_;(with_reducible refine (spec_l1In.calls a0 0 255 true _ A3.out).mono ?_);rintro e w' ⟨rfl,⟨nd,rfl⟩⟩;refine ⟨_,rfl,?_⟩) | ((with_reducible refine gate_callee (f:=52) rfl ?_);refine goesL_ (some 10) rfl rfl Tryz.func52 (by kernel_rfl) rfl #[.int .i64 a0,.bool a1] rfl q71_ ?_;(with_reducible refine (spec_l3Length.calls k a0 a1 t532 _ A5.out).mono ?_);rintro e w6 ⟨rfl,hb⟩;refine ⟨_,rfl,?_⟩;replace HB:=Aside0.mk (below_step q72_ hb);(try clear hb)))
  go_ret
  exact ⟨q74_,q72_⟩
 replace c4:=Bool.eq_false_iff.mpr c4
 subst c4
 rewrite [if_neg (show ¬ (false = true) by decide)] at H
 obtain rfl:=Option.some.inj H
 go_enter Tryz.func15,Tryz.ntmps15
 go_wp2_with (first | ((with_reducible refine gate_callee (f:=51) rfl ?_);refine goesL_ (some 6) rfl rfl Tryz.func51 (by kernel_rfl) rfl #[.int .i64 a0,.int .i64 0,.int .i64 255] rfl q71_ ?_;(with_reducible refine (spec_l1In.calls a0 0 255 false _ A3.out).mono ?_);rintro e w' ⟨rfl,⟨nd,rfl⟩⟩;refine ⟨_,rfl,?_⟩))
 go_ret
 exact ⟨q74_,q72_⟩
end Go.Proofs.YtodlnnoekccmmaaGreatDoor.QFnInsTexts
