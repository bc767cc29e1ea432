/- The machine's side of a law,written by a program of this session for this claim. -/
import Derived.Test.YtodlnnoekccmmaaGreatDoorIQq
import Derived.Test.YtodlnnoekccmmaaGreatDoorIQFnInsTextsx0
import Derived.Test.YtodlnnoekccmmaaGreatDoorIQFnInsTextsx6
import Derived.Test.YtodlnnoekccmmaaGreatDoorIQFnInsTextsx7
import Derived.Test.YtodlnnoekccmmaaGreatDoorIQFnInsTextsx11
namespace Go.Proofs.YtodlnnoekccmmaaGreatDoor.QFnInsTexts
open Go.Proofs.YtodlnnoekccmmaaGreatDoor.Qq
open Go.RowKit Go.Proofs.YtodlnnoekccmmaaGreatDoor.LibX Go.Proofs.YtodlnnoekccmmaaGreatDoor.LibE Go.Proofs.YtodlnnoekccmmaaGreatDoor.LibCB Go.Proofs.YtodlnnoekccmmaaGreatDoorW.PrintWords Go.Proofs.YtodlnnoekccmmaaGreatDoorW.PrintLast Go.Proofs.YtodlnnoekccmmaaGreatDoorW.PrintMore
attribute [local go_sem] max2_int min2_int max_two min_two max_three min_three max_four min_four   -- for this text's walks alone
set_option maxHeartbeats 8000000
set_option maxRecDepth 100000
set_option linter.unusedVariables false
set_option linter.unusedSimpArgs false
def impl_InsText.f (k:Nat) (a0_0:Int) (a0_1:Bool) (a0_2:Int):Option (ByteArray):=(impl_InsOk.f k a0_0 a0_1 a0_2).bind fun t475 => (if t475 = true then ((impl_TemplateOf.f k a0_0 a0_1).bind fun t476 => ((impl_holeOf.f k t476).bind fun t477 => (if t477.toList = ([]:List UInt8) then (some t476) else ((impl_filling.f k t477 a0_2).bind fun t478 => ((strings_Replace.f t476 t477 t478 1).bind fun t479 => (some t479)))))) else (some (⟨#[]⟩:ByteArray)))
theorem impl_InsText.calls (k:Nat) (a0_0:Int) (a0_1:Bool) (a0_2:Int) (r:ByteArray) (w:World) (h:impl_InsText.f k a0_0 a0_1 a0_2 = some r) (hG:Go.Proofs.YtodlnnoekccmmaaGreatDoor.LibW.GL w:=by first | exact hG | exact hG.below q10_ | exact hG.drewN _) :
  Calls Tryz.prog 26 #[.agg #[.int .i64 a0_0,.bool a0_1,.int .i64 a0_2]] w fun e w' => e = .returned (.string r) ∧ Below w.heap.size w w':=by
 have hu30:=Tryz.underlying30
 have HB:=Aside0.mk (Below.refl w.heap.size w)
 have H:=h;unfold impl_InsText.f at H
 clear h
 replace H:=Option.bind_eq_some_iff.mp H
 obtain ⟨t475,A20,H⟩:=H
 have A2:=Aside0.mk A20
 clear A20
 by_cases c3:t475 = true
 ·subst c3
  rewrite [if_pos rfl] at H
  replace H:=Option.bind_eq_some_iff.mp H
  obtain ⟨t476,A40,H⟩:=H
  have A4:=Aside0.mk A40
  clear A40
  replace H:=Option.bind_eq_some_iff.mp H
  obtain ⟨t477,A50,H⟩:=H
  have A5:=Aside0.mk A50
  clear A50
  by_cases c6:t477.toList = ([]:List UInt8)
  ·rw [if_pos c6] at H
   have c6b0:(t477.toList == ([]:List UInt8)) = true:=beq_iff_eq.mpr c6
   have c6b1:(t477.toList != ([]:List UInt8)) = false:=bne_eq_false_iff_eq.mpr c6
   have c6b9:t477.toList.isEmpty = true:=(isEmpty_beq _).trans c6b0
   clear c6
   obtain rfl:=Option.some.inj H
   go_enter Tryz.func26,Tryz.ntmps26
   go_wp2_with (first | ((with_reducible refine gate_dst (N:=1) rfl ?_);refine box_event ?hg (N:=1) ?hd (cs:=#[.int .i64 a0_0,.bool a0_1,.int .i64 a0_2]) (t:=30) ?hr ?_;(case hd => rfl);(case hg => rfl);(case hr => exact q139_);intro gb474 hg w7 hbox hb;have n0_:=Aside0.mk (below_step q72_ hb);have n1_:=Aside0.mk (hbox);have n2_:=Aside0.mk ((q56_:w.heap.size ≤ gb474));have n3_:=Aside0.mk ((q56_:w.heap.size ≤ gb474));clear HB;have HB:=n0_;have BK474:=n1_;have GW474:=n2_;have GE474:=n3_;clear n0_ n1_ n2_ n3_;clear hb hbox hg;have hcz8_0:w7.cell? ⟨gb474,0,none⟩ = some (.int .i64 a0_0):=(blk_cell BK474.out 0).trans rfl;have hcz8_1:w7.cell? ⟨gb474,1,none⟩ = some (.bool a0_1):=(blk_cell BK474.out 1).trans rfl;have hcz8_2:w7.cell? ⟨gb474,2,none⟩ = some (.int .i64 a0_2):=(blk_cell BK474.out 2).trans rfl;have hfz8_0:=blk_frozen BK474.out 0;have hfz8_1:=blk_frozen BK474.out 1;have hfz8_2:=blk_frozen BK474.out 2) | ((with_reducible refine gate_callee (f:=20) rfl ?_);refine goesL_ (some 6) rfl rfl Tryz.func20 (by kernel_rfl) rfl #[.agg #[.int .i64 a0_0,.bool a0_1,.int .i64 a0_2]] rfl q71_ ?_;(with_reducible refine (impl_InsOk.calls k a0_0 a0_1 a0_2 true _ A2.out).mono ?_);rintro e w9 ⟨rfl,hb⟩;refine ⟨_,rfl,?_⟩;have n0_:=Aside0.mk (blk_below (g:=gb474) (o:=.cells #[.int .i64 a0_0,.bool a0_1,.int .i64 a0_2] 30 (0,0)) q79_ hb);have n1_:=Aside0.mk (below_step q59_ hb);clear BK474;clear HB;have BK474:=n0_;have HB:=n1_;clear n0_ n1_;(try clear hb);have hcz10_0:w9.cell? ⟨gb474,0,none⟩ = some (.int .i64 a0_0):=(blk_cell BK474.out 0).trans rfl;have hcz10_1:w9.cell? ⟨gb474,1,none⟩ = some (.bool a0_1):=(blk_cell BK474.out 1).trans rfl;have hcz10_2:w9.cell? ⟨gb474,2,none⟩ = some (.int .i64 a0_2):=(blk_cell BK474.out 2).trans rfl;have hfz10_0:=blk_frozen BK474.out 0;have hfz10_1:=blk_frozen BK474.out 1;have hfz10_2:=blk_frozen BK474.out 2) | ((with_reducible refine gate_callee (f:=46) rfl ?_);refine goesL_ (some 12) rfl rfl Tryz.func46 (by kernel_rfl) rfl #[.int .i64 a0_0,.bool a0_1] rfl q71_ ?_;(with_reducible refine (impl_TemplateOf.calls k a0_0 a0_1 t476 _ A4.out).mono ?_);rintro e w11 ⟨rfl,hb⟩;refine ⟨_,rfl,?_⟩;have n0_:=Aside0.mk (blk_below (g:=gb474) (o:=.cells #[.int .i64 a0_0,.bool a0_1,.int .i64 a0_2] 30 (0,0)) q79_ hb);have n1_:=Aside0.mk (below_step q59_ hb);clear BK474;clear HB;have BK474:=n0_;have HB:=n1_;clear n0_ n1_;(try clear hb)) | ((with_reducible refine gate_callee (f:=47) rfl ?_);refine goesL_ (some 14) rfl rfl Tryz.func47 (by kernel_rfl) rfl #[.string t476] rfl q71_ ?_;(with_reducible refine (impl_holeOf.calls k t476 t477 _ A5.out).mono ?_);rintro e w12 ⟨rfl,hb⟩;refine ⟨_,rfl,?_⟩;have n0_:=Aside0.mk (blk_below (g:=gb474) (o:=.cells #[.int .i64 a0_0,.bool a0_1,.int .i64 a0_2] 30 (0,0)) q79_ hb);have n1_:=Aside0.mk (below_step q59_ hb);clear BK474;clear HB;have BK474:=n0_;have HB:=n1_;clear n0_ n1_;(try clear hb)))
   go_ret
   exact ⟨q74_,q59_⟩
  rw [if_neg c6] at H
  have c6b0:(t477.toList == ([]:List UInt8)) = false:=beq_eq_false_iff_ne.mpr c6
  have c6b1:(t477.toList != ([]:List UInt8)) = true:=bne_iff_ne.mpr c6
  have c6b9:t477.toList.isEmpty = false:=(isEmpty_beq _).trans c6b0
  replace H:=Option.bind_eq_some_iff.mp H
  obtain ⟨t478,A130,H⟩:=H
  have A13:=Aside0.mk A130
  clear A130
  replace H:=Option.bind_eq_some_iff.mp H
  obtain ⟨t479,A140,H⟩:=H
  have A14:=Aside0.mk A140
  clear A140
  obtain rfl:=Option.some.inj H
  go_enter Tryz.func26,Tryz.ntmps26
  go_wp2_with (first | ((with_reducible refine gate_dst (N:=1) rfl ?_);refine box_event ?hg (N:=1) ?hd (cs:=#[.int .i64 a0_0,.bool a0_1,.int .i64 a0_2]) (t:=30) ?hr ?_;(case hd => rfl);(case hg => rfl);(case hr => exact q139_);intro gb474 hg w15 hbox hb;have n0_:=Aside0.mk (below_step q72_ hb);have n1_:=Aside0.mk (hbox);have n2_:=Aside0.mk ((q56_:w.heap.size ≤ gb474));have n3_:=Aside0.mk ((q56_:w.heap.size ≤ gb474));clear HB;have HB:=n0_;have BK474:=n1_;have GW474:=n2_;have GE474:=n3_;clear n0_ n1_ n2_ n3_;clear hb hbox hg;have hcz16_0:w15.cell? ⟨gb474,0,none⟩ = some (.int .i64 a0_0):=(blk_cell BK474.out 0).trans rfl;have hcz16_1:w15.cell? ⟨gb474,1,none⟩ = some (.bool a0_1):=(blk_cell BK474.out 1).trans rfl;have hcz16_2:w15.cell? ⟨gb474,2,none⟩ = some (.int .i64 a0_2):=(blk_cell BK474.out 2).trans rfl;have hfz16_0:=blk_frozen BK474.out 0;have hfz16_1:=blk_frozen BK474.out 1;have hfz16_2:=blk_frozen BK474.out 2) | ((with_reducible refine gate_callee (f:=20) rfl ?_);refine goesL_ (some 6) rfl rfl Tryz.func20 (by kernel_rfl) rfl #[.agg #[.int .i64 a0_0,.bool a0_1,.int .i64 a0_2]] rfl q71_ ?_;(with_reducible refine (impl_InsOk.calls k a0_0 a0_1 a0_2 true _ A2.out).mono ?_);rintro e w17 ⟨rfl,hb⟩;refine ⟨_,rfl,?_⟩;have n0_:=Aside0.mk (blk_below (g:=gb474) (o:=.cells #[.int .i64 a0_0,.bool a0_1,.int .i64 a0_2] 30 (0,0)) q79_ hb);have n1_:=Aside0.mk (below_step q59_ hb);clear BK474;clear HB;have BK474:=n0_;have HB:=n1_;clear n0_ n1_;(try clear hb);have hcz18_0:w17.cell? ⟨gb474,0,none⟩ = some (.int .i64 a0_0):=(blk_cell BK474.out 0).trans rfl;have hcz18_1:w17.cell? ⟨gb474,1,none⟩ = some (.bool a0_1):=(blk_cell BK474.out 1).trans rfl;have hcz18_2:w17.cell? ⟨gb474,2,none⟩ = some (.int .i64 a0_2):=(blk_cell BK474.out 2).trans rfl;have hfz18_0:=blk_frozen BK474.out 0;have hfz18_1:=blk_frozen BK474.out 1;have hfz18_2:=blk_frozen BK474.out 2) | ((with_reducible refine gate_callee (f:=46) rfl ?_);refine goesL_ (some 12) rfl rfl Tryz.func46 (by kernel_rfl) rfl #[.int .i64 a0_0,.bool a0_1] rfl q71_ ?_;(with_reducible refine (impl_TemplateOf.calls k a0_0 a0_1 t476 _ A4.out).mono ?_);rintro e w19 ⟨rfl,hb⟩;refine ⟨_,rfl,?_⟩;have n0_:=Aside0.mk (blk_below (g:=gb474) (o:=.cells #[.int .i64 a0_0,.bool a0_1,.int .i64 a0_2] 30 (0,0)) q79_ hb);have n1_:=Aside0.mk (below_step q59_ hb);clear BK474;clear HB;have BK474:=n0_;have HB:=n1_;clear n0_ n1_;(try clear hb)) | ((with_reducible refine gate_callee (f:=47) rfl ?_);refine goesL_ (some 14) rfl rfl Tryz.func47 (by kernel_rfl) rfl #[.string t476] rfl q71_ ?_;(with_reducible refine (impl_holeOf.calls k t476 t477 _ A5.out).mono ?_);rintro e w20 ⟨rfl,hb⟩;refine ⟨_,rfl,?_⟩;have n0_:=Aside0.mk (blk_below (g:=gb474) (o:=.cells #[.int .i64 a0_0,.bool a0_1,.int .i64 a0_2] 30 (0,0)) q79_ hb);have n1_:=Aside0.mk (below_step q59_ hb);clear BK474;clear HB;have BK474:=n0_;have HB:=n1_;clear n0_ n1_;(try clear hb);have hcz21_0:w20.cell? ⟨gb474,0,none⟩ = some (.int .i64 a0_0):=(blk_cell BK474.out 0).trans rfl;have hcz21_1:w20.cell? ⟨gb474,1,none⟩ = some (.bool a0_1):=(blk_cell BK474.out 1).trans rfl;have hcz21_2:w20.cell? ⟨gb474,2,none⟩ = some (.int .i64 a0_2):=(blk_cell BK474.out 2).trans rfl;have hfz21_0:=blk_frozen BK474.out 0;have hfz21_1:=blk_frozen BK474.out 1;have hfz21_2:=blk_frozen BK474.out 2) | ((with_reducible refine gate_callee (f:=65) rfl ?_);refine goesL_ (some 22) rfl rfl Tryz.func65 (by kernel_rfl) rfl #[.string t477,.int .i64 a0_2] rfl q71_ ?_;(with_reducible refine (impl_filling.calls k t477 a0_2 t478 _ A13.out).mono ?_);rintro e w22 ⟨rfl,hb⟩;refine ⟨_,rfl,?_⟩;have n0_:=Aside0.mk (blk_below (g:=gb474) (o:=.cells #[.int .i64 a0_0,.bool a0_1,.int .i64 a0_2] 30 (0,0)) q79_ hb);have n1_:=Aside0.mk (below_step q59_ hb);clear BK474;clear HB;have BK474:=n0_;have HB:=n1_;clear n0_ n1_;(try clear hb)) | ((with_reducible refine gate_callee (f:=64) rfl ?_);refine goesL_ (some 23) rfl rfl Tryz.func64 (by kernel_rfl) rfl #[.string t476,.string t477,.string t478,.int .i64 1] rfl q71_ ?_;(with_reducible refine (strings_Replace.calls t476 t477 t478 1 t479 _ A14.out).mono ?_);rintro e w23 ⟨rfl,hb⟩;refine ⟨_,rfl,?_⟩;have n0_:=Aside0.mk (blk_below (g:=gb474) (o:=.cells #[.int .i64 a0_0,.bool a0_1,.int .i64 a0_2] 30 (0,0)) q79_ hb);have n1_:=Aside0.mk (below_step q59_ hb);clear BK474;clear HB;have BK474:=n0_;have HB:=n1_;clear n0_ n1_;(try clear hb)))
  go_ret
  exact ⟨q74_,q59_⟩
 replace c3:=Bool.eq_false_iff.mpr c3
 subst c3
 rewrite [if_neg (show ¬ (false = true) by decide)] at H
 obtain rfl:=Option.some.inj H
 go_enter Tryz.func26,Tryz.ntmps26
 go_wp2_with (first | ((with_reducible refine gate_dst (N:=1) rfl ?_);refine box_event ?hg (N:=1) ?hd (cs:=#[.int .i64 a0_0,.bool a0_1,.int .i64 a0_2]) (t:=30) ?hr ?_;(case hd => rfl);(case hg => rfl);(case hr => exact q139_);intro gb474 hg w24 hbox hb;have n0_:=Aside0.mk (below_step q72_ hb);have n1_:=Aside0.mk (hbox);have n2_:=Aside0.mk ((q56_:w.heap.size ≤ gb474));have n3_:=Aside0.mk ((q56_:w.heap.size ≤ gb474));clear HB;have HB:=n0_;have BK474:=n1_;have GW474:=n2_;have GE474:=n3_;clear n0_ n1_ n2_ n3_;clear hb hbox hg;have hcz25_0:w24.cell? ⟨gb474,0,none⟩ = some (.int .i64 a0_0):=(blk_cell BK474.out 0).trans rfl;have hcz25_1:w24.cell? ⟨gb474,1,none⟩ = some (.bool a0_1):=(blk_cell BK474.out 1).trans rfl;have hcz25_2:w24.cell? ⟨gb474,2,none⟩ = some (.int .i64 a0_2):=(blk_cell BK474.out 2).trans rfl;have hfz25_0:=blk_frozen BK474.out 0;have hfz25_1:=blk_frozen BK474.out 1;have hfz25_2:=blk_frozen BK474.out 2) | ((with_reducible refine gate_callee (f:=20) rfl ?_);refine goesL_ (some 6) rfl rfl Tryz.func20 (by kernel_rfl) rfl #[.agg #[.int .i64 a0_0,.bool a0_1,.int .i64 a0_2]] rfl q71_ ?_;(with_reducible refine (impl_InsOk.calls k a0_0 a0_1 a0_2 false _ A2.out).mono ?_);rintro e w26 ⟨rfl,hb⟩;refine ⟨_,rfl,?_⟩;have n0_:=Aside0.mk (blk_below (g:=gb474) (o:=.cells #[.int .i64 a0_0,.bool a0_1,.int .i64 a0_2] 30 (0,0)) q79_ hb);have n1_:=Aside0.mk (below_step q59_ hb);clear BK474;clear HB;have BK474:=n0_;have HB:=n1_;clear n0_ n1_;(try clear hb)))
 go_ret
 exact ⟨q74_,q59_⟩
mutual
def impl_wholeIns.l0:Nat → ByteArray → List Bool → Int → Int → Option (Int × Bool × Int × Bool)
 | 0,_,_,_,_ => none
 | k + 1,x0,x8,x9,x10 => if x10 < x9 then (if 0 ≤ x10 then (if x10 < (x8.length:Int) then (impl_wholeIns.l1 k x0 (rdOf false x8 x10) x8 x9 x10 0) else (none)) else (none)) else (some (0,false,0,false))
def impl_wholeIns.l1:Nat → ByteArray → Bool → List Bool → Int → Int → Int → Option (Int × Bool × Int × Bool)
 | 0,_,_,_,_,_,_ => none
 | k + 1,x0,x5,x8,x9,x10,x14 => if x14 < 256 then ((impl_TemplateOf.f k x14 x5).bind fun t485 => (if t485.toList = ([]:List UInt8) then (impl_wholeIns.j2 k x0 x5 x14 x8 x9 x10 x14 false) else (if t485.toList = x0.toList then ((impl_holeOf.f k t485).bind fun t486 => (impl_wholeIns.j2 k x0 x5 x14 x8 x9 x10 x14 (t486.toList == ([]:List UInt8)))) else (impl_wholeIns.j2 k x0 x5 x14 x8 x9 x10 x14 false)))) else (impl_wholeIns.l0 k x0 x8 x9 (wrap64 (x10 + 1)))
def impl_wholeIns.j2:Nat → ByteArray → Bool → Int → List Bool → Int → Int → Int → Bool → Option (Int × Bool × Int × Bool)
 | 0,_,_,_,_,_,_,_,_ => none
 | k + 1,x0,x5,x6,x8,x9,x10,x14,x31 => if x31 = true then (some (x6,x5,0,true)) else (impl_wholeIns.l1 k x0 x5 x8 x9 x10 (wrap64 (x14 + 1)))
end
def impl_wholeIns.f (k:Nat) (a0:ByteArray):Option (Int × Bool × Int × Bool):=(some (([false,true]:List Bool):List Bool)).bind fun y481 => (impl_wholeIns.l0 k a0 y481 (y481.length:Int) 0)
theorem impl_wholeIns.calls (k:Nat) (a0:ByteArray) (r1:Int) (r2:Bool) (r3:Int) (r4:Bool) (w:World) (h:impl_wholeIns.f k a0 = some (r1,r2,r3,r4)) (hG:Go.Proofs.YtodlnnoekccmmaaGreatDoor.LibW.GL w:=by first | exact hG | exact hG.below q10_ | exact hG.drewN _) :
  Calls Tryz.prog 66 #[.string a0] w fun e w' => e = .returned (.tuple #[.agg #[.int .i64 r1,.bool r2,.int .i64 r3],.bool r4]) ∧ Below w.heap.size w w':=by
 have hu30:=Tryz.underlying30
 have HB:=Aside0.mk (Below.refl w.heap.size w)
 have H:=h;unfold impl_wholeIns.f at H
 clear h
 obtain ⟨y481,hy481⟩:∃ y_:List Bool,y_ = (([false,true]:List Bool)):=⟨_,rfl⟩
 replace H:(impl_wholeIns.l0 k a0 y481 (y481.length:Int) 0) = some (r1,r2,r3,r4):=by first | (rw [hy481];exact H) | exact H
 have Ny481:=Aside0.mk hy481
 clear hy481
 have H':=Aside0.mk H
 clear H
 go_enter Tryz.func66,Tryz.ntmps66
 go_wp2_with (first | ((with_reducible refine gate_dst (N:=2) rfl ?_);refine box_event ?hg (N:=2) ?hd (cs:=#[.int .i64 0,.bool false,.int .i64 0]) (t:=30) ?hr ?_;(case hd => rfl);(case hg => rfl);(case hr => exact q139_);intro gb480 hg w2 hbox hb;have n0_:=Aside0.mk (below_step q72_ hb);have n1_:=Aside0.mk (hbox);have n2_:=Aside0.mk ((q56_:w.heap.size ≤ gb480));have n3_:=Aside0.mk ((q56_:w.heap.size ≤ gb480));clear HB;have HB:=n0_;have BK480:=n1_;have GW480:=n2_;have GE480:=n3_;clear n0_ n1_ n2_ n3_;clear hb hbox hg) | ((with_reducible refine gate_dst (N:=8) rfl ?_);refine Kd.R_lit Kd.bool _ 4 ?hg (N:=8) ?hd (xs:=([false,true]:List Bool)) (inner:=[.bool false,.bool true]) (ok:=fun _ => True) (okp:=fun _ => True) ?hr ?hp (fun _ hk => hk) trivial (Below.refl _ _) (Nat.le_refl _) (by simp) ?_;(case hd => rfl);(case hg => rfl);(case hr => exact q139_);(case hp => exact (Reps.one (show Kd.M Kd.bool _ _ _ false [.bool false] from rfl) (Reps.one (show Kd.M Kd.bool _ _ _ true [.bool true] from rfl) (Reps.none _ _))));intro v482 w3 ho4 hb hg_ hnew_;clear hg_ hnew_;(first | rw [← Ny481.out] at ho4 | (simp only [Int.reduceToNat] at ho4;rw [← Ny481.out] at ho4));have n0_:=Aside0.mk (Kd.R_lower ho4 (below_size q60_));have n1_:=Aside0.mk (blk_below (g:=gb480) (o:=.cells #[.int .i64 0,.bool false,.int .i64 0] 30 (0,0)) q80_ hb);have n2_:=Aside0.mk (below_step q60_ hb);clear BK480;clear HB;have HO483:=n0_;have BK480:=n1_;have HB:=n2_;clear n0_ n1_ n2_;clear hb ho4;obtain ⟨Ao5,co5,eo5⟩:=Kd.R_slice HO483.out;subst eo5))
 go_loopg [10] k (fun kq v10 w' => ∃ (x10_1:Int) (x481000_1:Int) (x481001_1:Bool) (x481002_1:Int),v10 = .int .i64 x10_1 ∧ Aside0 (impl_wholeIns.l0 kq a0 y481 (y481.length:Int) x10_1 = some (r1,r2,r3,r4)) ∧ Aside0 (kq ≤ k) ∧ Aside0 (Kd.R Kd.bool 4 w' w.heap.size (fun _ => True) (.slice Ao5 y481.length co5) y481) ∧ Aside0 (w'.heap[gb480]? = some (.cells #[.int .i64 x481000_1,.bool x481001_1,.int .i64 x481002_1] 30 (0,0))) ∧ Aside0 (Below w.heap.size w w'))
 case atStart => exact ⟨(0),(0),(false),(0),q92_,H',⟨Nat.le_refl _⟩,⟨by (with_reducible repeat (first | apply Kd.R_alloc | apply Kd.R_drewN | apply Kd.R_drew));exact HO483.out⟩,⟨q80_⟩,⟨q60_⟩⟩
 clear H'
 try clear p2
 obtain ⟨x10_1,x481000_1,x481001_1,x481002_1,rfl,HA,HK1,HO_8,BK480,HB⟩:=hrel
 cases gk with
 | zero => exact absurd HA.out (by simp [impl_wholeIns.l0])
 | succ k1 =>
  have H:=HA.out
  clear HA
  simp only [impl_wholeIns.l0] at H
  by_cases c6:x10_1 < (y481.length:Int)
  ·rw [if_pos c6] at H
   have c6b0:=decide_eq_true c6
   clear c6
   by_cases c7:0 ≤ x10_1
   rotate_left
   ·rw [if_neg c7] at H
    exact absurd H (by simp)
   rw [if_pos c7] at H
   have c7b0:=decide_eq_true c7
   clear c7
   by_cases c8:x10_1 < (y481.length:Int)
   rotate_left
   ·rw [if_neg c8] at H
    exact absurd H (by simp)
   rw [if_pos c8] at H
   have c8b0:=decide_eq_true c8
   clear c8
   have H':=Aside0.mk H
   clear H
   have p484:0 ≤ (x10_1:Int):=of_decide_eq_true q109_
   have q484:x10_1 < (y481.length:Int):=of_decide_eq_true q109_
   obtain ⟨ad484,e484,hx484_0⟩:=Kd.at_bool (Kd.R_reads' HO_8.out).2.2 x10_1 p484 q484
   cases e484
   replace p484:=eq_true p484
   replace q484:=eq_true q484
   go_wp2
   go_loopg [14] k1 (fun kq v14 w' => ∃ (x14_2:Int) (x481000_2:Int) (x481001_2:Bool) (x481002_2:Int),v14 = .int .i64 x14_2 ∧ Aside0 (impl_wholeIns.l1 kq a0 (rdOf false y481 x10_1) y481 (y481.length:Int) x10_1 x14_2 = some (r1,r2,r3,r4)) ∧ Aside0 (kq ≤ k1) ∧ Aside0 (Kd.R Kd.bool 4 w' w.heap.size (fun _ => True) (.slice (some ad484) y481.length co5) y481) ∧ Aside0 (w'.heap[gb480]? = some (.cells #[.int .i64 x481000_2,.bool x481001_2,.int .i64 x481002_2] 30 (0,0))) ∧ Aside0 (Below w.heap.size w w'))
   case atStart => exact ⟨(0),(x481000_1),(x481001_1),(x481002_1),q92_,H',⟨Nat.le_refl _⟩,⟨q105_⟩,⟨q80_⟩,⟨q60_⟩⟩
   clear H'
   try clear p2 p2
   try clear p4
   try clear q4
   try clear hx4
   try clear c6
   try clear c6b0
   try clear p6
   try clear c7
   try clear c7b0
   try clear c8
   try clear c8b0
   try clear hx484_0
   try clear p484
   try clear q484
   obtain ⟨x14_2,x481000_2,x481001_2,x481002_2,rfl,HA,HK2,HO_8,BK480,HB⟩:=hrel
   cases gk with
   | zero => exact absurd HA.out (by simp [impl_wholeIns.l1])
   | succ k2 =>
    have H:=HA.out
    clear HA
    simp only [impl_wholeIns.l1] at H
    by_cases c9:x14_2 < 256
    ·rw [if_pos c9] at H
     have c9b0:=decide_eq_true c9
     clear c9
     replace H:=Option.bind_eq_some_iff.mp H
     obtain ⟨t485,A100,H⟩:=H
     have A10:=Aside0.mk A100
     clear A100
     have HC11:=Aside0.mk H
     clear H
     go_upto_region 8 with (first | ((with_reducible refine gate_callee (f:=46) rfl ?_);refine goesL_ (some 19) rfl rfl Tryz.func46 (by kernel_rfl) rfl #[.int .i64 x14_2,.bool (rdOf false y481 x10_1)] rfl q71_ ?_;(with_reducible refine (impl_TemplateOf.calls k2 x14_2 (rdOf false y481 x10_1) t485 _ A10.out).mono ?_);rintro e w12 ⟨rfl,hb⟩;refine ⟨_,rfl,?_⟩;have n0_:=Aside0.mk (Kd.R_below q105_ hb);have n1_:=Aside0.mk (blk_below (g:=gb480) (o:=.cells #[.int .i64 x481000_2,.bool x481001_2,.int .i64 x481002_2] 30 (0,0)) q80_ hb);have n2_:=Aside0.mk (below_step q60_ hb);clear HO_8;clear BK480;clear HB;have HO_8:=n0_;have BK480:=n1_;have HB:=n2_;clear n0_ n1_ n2_;(try clear hb)))
     (try simp only [Act.put,List.setIfInBounds_toArray,List.set_cons_zero,List.set_cons_succ])
     go_cut [31] (fun v31 wc => ∃ (kq:Nat) (x31_10:Bool),v31 = .bool x31_10 ∧ Aside0 (impl_wholeIns.j2 kq a0 (rdOf false y481 x10_1) x14_2 y481 (y481.length:Int) x10_1 x14_2 x31_10 = some (r1,r2,r3,r4)) ∧ Aside0 (kq ≤ k2) ∧ Aside0 (Kd.R Kd.bool 4 wc w.heap.size (fun _ => True) (.slice (some ad484) y481.length co5) y481) ∧ Aside0 (wc.heap[gb480]? = some (.cells #[.int .i64 x481000_2,.bool x481001_2,.int .i64 x481002_2] 30 (0,0))) ∧ Aside0 (Below w.heap.size w wc))
     case first =>
      have H:=HC11.out
      clear HC11
      by_cases c13:t485.toList = ([]:List UInt8)
      ·rw [if_pos c13] at H
       have c13b0:(t485.toList == ([]:List UInt8)) = true:=beq_iff_eq.mpr c13
       have c13b1:(t485.toList != ([]:List UInt8)) = false:=bne_eq_false_iff_eq.mpr c13
       have c13b9:t485.toList.isEmpty = true:=(isEmpty_beq _).trans c13b0
       clear c13
       (first | rw [c13b0] | (simp only [i64_w,i32_w];rw [c13b0]) | rw [c13b9] | skip)
       have H':=Aside0.mk H
       clear H
       go_wp2
       go_meet
       case rel => exact ⟨_,(false),q92_,H',⟨q106_⟩,⟨q105_⟩,⟨q80_⟩,⟨q60_⟩⟩
      rw [if_neg c13] at H
      have c13b0:(t485.toList == ([]:List UInt8)) = false:=beq_eq_false_iff_ne.mpr c13
      have c13b1:(t485.toList != ([]:List UInt8)) = true:=bne_iff_ne.mpr c13
      have c13b9:t485.toList.isEmpty = false:=(isEmpty_beq _).trans c13b0
      (first | rw [c13b0] | (simp only [i64_w,i32_w];rw [c13b0]) | rw [c13b9] | skip)
      by_cases c14:t485.toList = a0.toList
      ·rw [if_pos c14] at H
       have c14b0:(t485.toList == a0.toList) = true:=beq_iff_eq.mpr c14
       have c14b1:(t485.toList != a0.toList) = false:=bne_eq_false_iff_eq.mpr c14
       clear c14
       replace H:=Option.bind_eq_some_iff.mp H
       obtain ⟨t486,A150,H⟩:=H
       have A15:=Aside0.mk A150
       clear A150
       have H':=Aside0.mk H
       clear H
       go_wp2_with (first | (go_at_call 47;(with_reducible refine (impl_holeOf.calls k2 t485 t486 _ A15.out).mono ?_);rintro e w16 ⟨rfl,hb⟩;have n0_:=Aside0.mk (Kd.R_below q105_ hb);have n1_:=Aside0.mk (blk_below (g:=gb480) (o:=.cells #[.int .i64 x481000_2,.bool x481001_2,.int .i64 x481002_2] 30 (0,0)) q80_ hb);have n2_:=Aside0.mk (below_step q60_ hb);clear HO_8;clear BK480;clear HB;have HO_8:=n0_;have BK480:=n1_;have HB:=n2_;clear n0_ n1_ n2_;(try clear hb)))
       go_meet
       case rel => exact ⟨_,((t486.toList == ([]:List UInt8))),q92_,H',⟨q106_⟩,⟨q105_⟩,⟨q80_⟩,⟨q60_⟩⟩
      rw [if_neg c14] at H
      have c14b0:(t485.toList == a0.toList) = false:=beq_eq_false_iff_ne.mpr c14
      have c14b1:(t485.toList != a0.toList) = true:=bne_iff_ne.mpr c14
      have H':=Aside0.mk H
      clear H
      go_wp2
      go_meet
      case rel => exact ⟨_,(false),q92_,H',⟨q106_⟩,⟨q105_⟩,⟨q80_⟩,⟨q60_⟩⟩
     clear HC11
     try clear c1
     try clear p2 p2
     try clear c4
     try clear p4 p4
     try clear q4 q4
     try clear hx4
     try clear c6
     try clear c6b0
     try clear p6 p6
     try clear c7
     try clear c7b0
     try clear c8
     try clear c8b0
     try clear c9
     try clear c9b0
     try clear c13
     try clear c13b0
     try clear c13b1
     try clear c14
     try clear c14b0
     try clear c14b1
     try clear hx484_0
     try clear p484
     try clear q484
     obtain ⟨kq,x31_10,rfl,HA,HJ10,HO_8,BK480,HB⟩:=hcut
     cases kq with
     | zero => exact absurd HA.out (by simp [impl_wholeIns.j2])
     | succ kj10 =>
      have H:=HA.out
      clear HA
      simp only [impl_wholeIns.j2] at H
      by_cases c17:x31_10 = true
      ·subst c17
       rewrite [if_pos rfl] at H
       simp only [Option.some.injEq,Prod.mk.injEq] at H
       obtain ⟨rfl,rfl,rfl,rfl⟩:=H
       have hcz18_0:wc.cell? ⟨gb480,0,none⟩ = some (.int .i64 x481000_2):=bz_ BK480 0
       have hcz18_1:wc.cell? ⟨gb480,1,none⟩ = some (.bool x481001_2):=bz_ BK480 1
       have hcz18_2:wc.cell? ⟨gb480,2,none⟩ = some (.int .i64 x481002_2):=bz_ BK480 2
       have hfz18_0:=blk_frozen BK480.out 0
       have hfz18_1:=blk_frozen BK480.out 1
       have hfz18_2:=blk_frozen BK480.out 2
       go_wp2
       refine bodyPost_ret (results_ct rfl _ _ gb480 30 #[.int .i64 x14_2,.bool (rdOf false y481 x10_1),.int .i64 0] (0,0) _ rfl (by (with_reducible repeat (first | refine blk_drewN ?_ _ | refine blk_drew ?_ | refine blk_alloc ?_ _));refine blk_put (cs:=#[.int .i64 x14_2,.bool (rdOf false y481 x10_1),.int .i64 x481002_2]) ?_ 2 _ rfl;(with_reducible repeat (first | refine blk_drewN ?_ _ | refine blk_drew ?_ | refine blk_alloc ?_ _));refine blk_put (cs:=#[.int .i64 x14_2,.bool x481001_2,.int .i64 x481002_2]) ?_ 1 _ rfl;(with_reducible repeat (first | refine blk_drewN ?_ _ | refine blk_drew ?_ | refine blk_alloc ?_ _));refine blk_put (cs:=#[.int .i64 x481000_2,.bool x481001_2,.int .i64 x481002_2]) ?_ 0 _ rfl;(with_reducible repeat (first | refine blk_drewN ?_ _ | refine blk_drew ?_ | refine blk_alloc ?_ _));exact BK480.out) Tryz.underlying30 rfl (by kernel_rfl)) rfl ?_
       exact ⟨q74_,q60_⟩
      replace c17:=Bool.eq_false_iff.mpr c17
      subst c17
      rewrite [if_neg (show ¬ (false = true) by decide)] at H
      have H':=Aside0.mk H
      clear H
      go_wp2
      go_roundg kj10
      case measure => have:=HK1.out;have:=HK2.out;have:=HJ10.out;omega
      case rel => exact ⟨(wrap64 (x14_2 + 1)),(x481000_2),(x481001_2),(x481002_2),q92_,H',⟨by have:=HK1.out;have:=HK2.out;have:=HJ10.out;omega⟩,⟨q105_⟩,⟨q80_⟩,⟨q60_⟩⟩
    rw [if_neg c9] at H
    have c9b0:=decide_eq_false c9
    clear c9
    have H':=Aside0.mk H
    clear H
    go_wp2
    go_roundg k2
    case measure => have:=HK1.out;have:=HK2.out;omega
    case rel => exact ⟨(wrap64 (x10_1 + 1)),(x481000_2),(x481001_2),(x481002_2),q92_,H',⟨by have:=HK1.out;have:=HK2.out;omega⟩,⟨q105_⟩,⟨q80_⟩,⟨q60_⟩⟩
  rw [if_neg c6] at H
  have c6b0:=decide_eq_false c6
  clear c6
  simp only [Option.some.injEq,Prod.mk.injEq] at H
  obtain ⟨rfl,rfl,rfl,rfl⟩:=H
  have hcz19_0:wr.cell? ⟨gb480,0,none⟩ = some (.int .i64 x481000_1):=bz_ BK480 0
  have hcz19_1:wr.cell? ⟨gb480,1,none⟩ = some (.bool x481001_1):=bz_ BK480 1
  have hcz19_2:wr.cell? ⟨gb480,2,none⟩ = some (.int .i64 x481002_1):=bz_ BK480 2
  have hfz19_0:=blk_frozen BK480.out 0
  have hfz19_1:=blk_frozen BK480.out 1
  have hfz19_2:=blk_frozen BK480.out 2
  go_wp2
  refine bodyPost_ret (results_ct rfl _ _ gb480 30 #[.int .i64 0,.bool false,.int .i64 0] (0,0) _ rfl (by (with_reducible repeat (first | refine blk_drewN ?_ _ | refine blk_drew ?_ | refine blk_alloc ?_ _));refine blk_put (cs:=#[.int .i64 0,.bool false,.int .i64 x481002_1]) ?_ 2 _ rfl;(with_reducible repeat (first | refine blk_drewN ?_ _ | refine blk_drew ?_ | refine blk_alloc ?_ _));refine blk_put (cs:=#[.int .i64 0,.bool x481001_1,.int .i64 x481002_1]) ?_ 1 _ rfl;(with_reducible repeat (first | refine blk_drewN ?_ _ | refine blk_drew ?_ | refine blk_alloc ?_ _));refine blk_put (cs:=#[.int .i64 x481000_1,.bool x481001_1,.int .i64 x481002_1]) ?_ 0 _ rfl;(with_reducible repeat (first | refine blk_drewN ?_ _ | refine blk_drew ?_ | refine blk_alloc ?_ _));exact BK480.out) Tryz.underlying30 rfl (by kernel_rfl)) rfl ?_
  exact ⟨q74_,q60_⟩
def stringslite_HasPrefix.f (a0:ByteArray) (a1:ByteArray):Option (Bool):=if (a0.size:Int) ≥ (a1.size:Int) then (if 0 ≤ (a1.size:Int) then (if (a1.size:Int) ≤ (a0.size:Int) then (some ((a0.extract 0 ((a1.size:Int):Int).toNat).toList == a1.toList)) else (none)) else (none)) else (some false)
theorem stringslite_HasPrefix.calls (a0:ByteArray) (a1:ByteArray) (r:Bool) (w:World) (h:stringslite_HasPrefix.f a0 a1 = some r) :
  Calls Tryz.prog 145 #[.string a0,.string a1] w fun e w' => e = .returned (.bool r) ∧ Drawn0 w w':=by
 have H:=h;unfold stringslite_HasPrefix.f at H
 clear h
 by_cases c3:(a0.size:Int) ≥ (a1.size:Int)
 ·rw [if_pos c3] at H
  have c3b0:decide ((a1.size:Int) ≤ (a0.size:Int)) = true:=decide_eq_true c3
  have c3b1:decide (a1.size ≤ a0.size) = true:=decide_eq_true (Int.ofNat_le.mp c3)
  clear c3
  by_cases c4:0 ≤ (a1.size:Int)
  rotate_left
  ·rw [if_neg c4] at H
   exact absurd H (by simp)
  rw [if_pos c4] at H
  have c4b0:=eq_true c4
  have c4b1:=decide_eq_true c4
  clear c4
  by_cases c5:(a1.size:Int) ≤ (a0.size:Int)
  rotate_left
  ·rw [if_neg c5] at H
   exact absurd H (by simp)
  rw [if_pos c5] at H
  have c5b0:=eq_true c5
  have c5b1:=decide_eq_true c5
  clear c5
  obtain rfl:=Option.some.inj H
  go_enter Tryz.func145,Tryz.ntmps145
  go_wp2
  go_ret
  exact ⟨q92_,q108_⟩
 rw [if_neg c3] at H
 have c3b0:decide ((a1.size:Int) ≤ (a0.size:Int)) = false:=decide_eq_false c3
 have c3b1:decide (a1.size ≤ a0.size) = false:=decide_eq_false (fun h => c3 (Int.ofNat_le.mpr h))
 clear c3
 obtain rfl:=Option.some.inj H
 go_enter Tryz.func145,Tryz.ntmps145
 go_wp2
 go_ret
 exact ⟨q92_,q108_⟩
def stringslite_CutPrefix.f (a0:ByteArray) (a1:ByteArray):Option (ByteArray × Bool):=(stringslite_HasPrefix.f a0 a1).bind fun t487 => (if t487 = true then (if 0 ≤ (a1.size:Int) then (if (a1.size:Int) ≤ (a0.size:Int) then (some (a0.extract ((a1.size:Int):Int).toNat a0.size,true)) else (none)) else (none)) else (some (a0,false)))
theorem stringslite_CutPrefix.calls (a0:ByteArray) (a1:ByteArray) (r1:ByteArray) (r2:Bool) (w:World) (h:stringslite_CutPrefix.f a0 a1 = some (r1,r2)) :
  Calls Tryz.prog 143 #[.string a0,.string a1] w fun e w' => e = .returned (.tuple #[.string r1,.bool r2]) ∧ Drawn0 w w':=by
 have H:=h;unfold stringslite_CutPrefix.f at H
 clear h
 replace H:=Option.bind_eq_some_iff.mp H
 obtain ⟨t487,A30,H⟩:=H
 have A3:=Aside0.mk A30
 clear A30
 by_cases c4:t487 = true
 ·subst c4
  rewrite [if_pos rfl] at H
  by_cases c5:0 ≤ (a1.size:Int)
  rotate_left
  ·rw [if_neg c5] at H
   exact absurd H (by simp)
  rw [if_pos c5] at H
  have c5b0:=eq_true c5
  have c5b1:=decide_eq_true c5
  clear c5
  by_cases c6:(a1.size:Int) ≤ (a0.size:Int)
  rotate_left
  ·rw [if_neg c6] at H
   exact absurd H (by simp)
  rw [if_pos c6] at H
  have c6b0:=eq_true c6
  have c6b1:=decide_eq_true c6
  clear c6
  simp only [Option.some.injEq,Prod.mk.injEq] at H
  obtain ⟨rfl,rfl⟩:=H
  go_enter Tryz.func143,Tryz.ntmps143
  go_wp2_with (first | ((with_reducible refine gate_callee (f:=145) rfl ?_);refine goesL_ (some 8) rfl rfl Tryz.func145 (by kernel_rfl) rfl #[.string a0,.string a1] rfl q71_ ?_;(with_reducible refine (stringslite_HasPrefix.calls a0 a1 true _ A3.out).mono ?_);rintro e w' ⟨rfl,⟨nd,rfl⟩⟩;refine ⟨_,rfl,?_⟩))
  go_ret2
  exact ⟨q92_,q108_⟩
 replace c4:=Bool.eq_false_iff.mpr c4
 subst c4
 rewrite [if_neg (show ¬ (false = true) by decide)] at H
 simp only [Option.some.injEq,Prod.mk.injEq] at H
 obtain ⟨rfl,rfl⟩:=H
 go_enter Tryz.func143,Tryz.ntmps143
 go_wp2_with (first | ((with_reducible refine gate_callee (f:=145) rfl ?_);refine goesL_ (some 8) rfl rfl Tryz.func145 (by kernel_rfl) rfl #[.string a0,.string a1] rfl q71_ ?_;(with_reducible refine (stringslite_HasPrefix.calls a0 a1 false _ A3.out).mono ?_);rintro e w' ⟨rfl,⟨nd,rfl⟩⟩;refine ⟨_,rfl,?_⟩))
 go_ret2
 exact ⟨q92_,q108_⟩
def strings_CutPrefix.f (a0:ByteArray) (a1:ByteArray):Option (ByteArray × Bool):=(stringslite_CutPrefix.f a0 a1).bind fun bt488 => (some (bt488.1,bt488.2))
theorem strings_CutPrefix.calls (a0:ByteArray) (a1:ByteArray) (r1:ByteArray) (r2:Bool) (w:World) (h:strings_CutPrefix.f a0 a1 = some (r1,r2)) :
  Calls Tryz.prog 115 #[.string a0,.string a1] w fun e w' => e = .returned (.tuple #[.string r1,.bool r2]) ∧ Drawn0 w w':=by
 have H:=h;unfold strings_CutPrefix.f at H
 clear h
 replace H:=Option.bind_eq_some_iff.mp H
 obtain ⟨⟨t488,t489⟩,A30,H⟩:=H
 try dsimp -simprocs -eta only at H
 have A3:=Aside0.mk A30
 clear A30
 simp only [Option.some.injEq,Prod.mk.injEq] at H
 obtain ⟨rfl,rfl⟩:=H
 go_enter Tryz.func115,Tryz.ntmps115
 go_wp2_with (first | ((with_reducible refine gate_callee (f:=143) rfl ?_);refine goesL_ (some 8) rfl rfl Tryz.func143 (by kernel_rfl) rfl #[.string a0,.string a1] rfl q71_ ?_;(with_reducible refine (stringslite_CutPrefix.calls a0 a1 t488 t489 _ A3.out).mono ?_);rintro e w' ⟨rfl,⟨nd,rfl⟩⟩;refine ⟨_,rfl,?_⟩))
 go_ret2
 exact ⟨q92_,q108_⟩
def stringslite_HasSuffix.f (a0:ByteArray) (a1:ByteArray):Option (Bool):=if (a0.size:Int) ≥ (a1.size:Int) then (if 0 ≤ (wrap64 ((a0.size:Int) - (a1.size:Int))) then (if (wrap64 ((a0.size:Int) - (a1.size:Int))) ≤ (a0.size:Int) then (some ((a0.extract ((wrap64 ((a0.size:Int) - (a1.size:Int))):Int).toNat a0.size).toList == a1.toList)) else (none)) else (none)) else (some false)
theorem stringslite_HasSuffix.calls (a0:ByteArray) (a1:ByteArray) (r:Bool) (w:World) (h:stringslite_HasSuffix.f a0 a1 = some r) :
  Calls Tryz.prog 166 #[.string a0,.string a1] w fun e w' => e = .returned (.bool r) ∧ Drawn0 w w':=by
 have H:=h;unfold stringslite_HasSuffix.f at H
 clear h
 by_cases c3:(a0.size:Int) ≥ (a1.size:Int)
 ·rw [if_pos c3] at H
  have c3b0:decide ((a1.size:Int) ≤ (a0.size:Int)) = true:=decide_eq_true c3
  have c3b1:decide (a1.size ≤ a0.size) = true:=decide_eq_true (Int.ofNat_le.mp c3)
  clear c3
  obtain ⟨ji4,hji4⟩:∃ j_:Int,(wrap64 ((a0.size:Int) - (a1.size:Int))) = j_:=⟨_,rfl⟩
  (first | rewrite [hji4] at H | simp only [hji4] at H)
  have hji4w:(IntKind.i64.wrap ((a0.size:Int) - (a1.size:Int))) = ji4:=(i64_w _).trans hji4
  by_cases c5:0 ≤ (ji4)
  rotate_left
  ·rw [if_neg c5] at H
   exact absurd H (by simp)
  rw [if_pos c5] at H
  have c5b0:=eq_true c5
  have c5b1:=decide_eq_true c5
  clear c5
  by_cases c6:(ji4) ≤ (a0.size:Int)
  rotate_left
  ·rw [if_neg c6] at H
   exact absurd H (by simp)
  rw [if_pos c6] at H
  have c6b0:=eq_true c6
  have c6b1:=decide_eq_true c6
  clear c6
  obtain rfl:=Option.some.inj H
  go_enter Tryz.func166,Tryz.ntmps166
  go_wp2
  go_ret
  exact ⟨by first | rfl | (simp;done) | (simp only [← hji4] <;> (first | rfl | (simp;done))) | (simp [*];done) | (simp;decide +kernel) | (simp [wrap64];done) | (simp [bne];done),q108_⟩
 rw [if_neg c3] at H
 have c3b0:decide ((a1.size:Int) ≤ (a0.size:Int)) = false:=decide_eq_false c3
 have c3b1:decide (a1.size ≤ a0.size) = false:=decide_eq_false (fun h => c3 (Int.ofNat_le.mpr h))
 clear c3
 obtain rfl:=Option.some.inj H
 go_enter Tryz.func166,Tryz.ntmps166
 go_wp2
 go_ret
 exact ⟨q92_,q108_⟩
def stringslite_CutSuffix.f (a0:ByteArray) (a1:ByteArray):Option (ByteArray × Bool):=(stringslite_HasSuffix.f a0 a1).bind fun t490 => (if t490 = true then (if 0 ≤ (wrap64 ((a0.size:Int) - (a1.size:Int))) then (if (wrap64 ((a0.size:Int) - (a1.size:Int))) ≤ (a0.size:Int) then (some (a0.extract 0 ((wrap64 ((a0.size:Int) - (a1.size:Int))):Int).toNat,true)) else (none)) else (none)) else (some (a0,false)))
theorem stringslite_CutSuffix.calls (a0:ByteArray) (a1:ByteArray) (r1:ByteArray) (r2:Bool) (w:World) (h:stringslite_CutSuffix.f a0 a1 = some (r1,r2)) :
  Calls Tryz.prog 144 #[.string a0,.string a1] w fun e w' => e = .returned (.tuple #[.string r1,.bool r2]) ∧ Drawn0 w w':=by
 have H:=h;unfold stringslite_CutSuffix.f at H
 clear h
 replace H:=Option.bind_eq_some_iff.mp H
 obtain ⟨t490,A30,H⟩:=H
 have A3:=Aside0.mk A30
 clear A30
 by_cases c4:t490 = true
 ·subst c4
  rewrite [if_pos rfl] at H
  obtain ⟨ji5,hji5⟩:∃ j_:Int,(wrap64 ((a0.size:Int) - (a1.size:Int))) = j_:=⟨_,rfl⟩
  (first | rewrite [hji5] at H | simp only [hji5] at H)
  (try rw [hji5] at A3)
  have hji5w:(IntKind.i64.wrap ((a0.size:Int) - (a1.size:Int))) = ji5:=(i64_w _).trans hji5
  by_cases c6:0 ≤ (ji5)
  rotate_left
  ·rw [if_neg c6] at H
   exact absurd H (by simp)
  rw [if_pos c6] at H
  have c6b0:=eq_true c6
  have c6b1:=decide_eq_true c6
  clear c6
  by_cases c7:(ji5) ≤ (a0.size:Int)
  rotate_left
  ·rw [if_neg c7] at H
   exact absurd H (by simp)
  rw [if_pos c7] at H
  have c7b0:=eq_true c7
  have c7b1:=decide_eq_true c7
  clear c7
  simp only [Option.some.injEq,Prod.mk.injEq] at H
  obtain ⟨rfl,rfl⟩:=H
  go_enter Tryz.func144,Tryz.ntmps144
  go_wp2_with (first | ((with_reducible refine gate_callee (f:=166) rfl ?_);refine goesL_ (some 8) rfl rfl Tryz.func166 (by kernel_rfl) rfl #[.string a0,.string a1] rfl q71_ ?_;(with_reducible refine (stringslite_HasSuffix.calls a0 a1 true _ A3.out).mono ?_);rintro e w' ⟨rfl,⟨nd,rfl⟩⟩;refine ⟨_,rfl,?_⟩))
  go_ret2
  exact ⟨by first | rfl | (simp;done) | (simp only [← hji5] <;> (first | rfl | (simp;done))) | (simp [*];done) | (simp;decide +kernel) | (simp [wrap64];done) | (simp [bne];done),q108_⟩
 replace c4:=Bool.eq_false_iff.mpr c4
 subst c4
 rewrite [if_neg (show ¬ (false = true) by decide)] at H
 simp only [Option.some.injEq,Prod.mk.injEq] at H
 obtain ⟨rfl,rfl⟩:=H
 go_enter Tryz.func144,Tryz.ntmps144
 go_wp2_with (first | ((with_reducible refine gate_callee (f:=166) rfl ?_);refine goesL_ (some 8) rfl rfl Tryz.func166 (by kernel_rfl) rfl #[.string a0,.string a1] rfl q71_ ?_;(with_reducible refine (stringslite_HasSuffix.calls a0 a1 false _ A3.out).mono ?_);rintro e w' ⟨rfl,⟨nd,rfl⟩⟩;refine ⟨_,rfl,?_⟩))
 go_ret2
 exact ⟨q92_,q108_⟩
def strings_CutSuffix.f (a0:ByteArray) (a1:ByteArray):Option (ByteArray × Bool):=(stringslite_CutSuffix.f a0 a1).bind fun bt491 => (some (bt491.1,bt491.2))
theorem strings_CutSuffix.calls (a0:ByteArray) (a1:ByteArray) (r1:ByteArray) (r2:Bool) (w:World) (h:strings_CutSuffix.f a0 a1 = some (r1,r2)) :
  Calls Tryz.prog 116 #[.string a0,.string a1] w fun e w' => e = .returned (.tuple #[.string r1,.bool r2]) ∧ Drawn0 w w':=by
 have H:=h;unfold strings_CutSuffix.f at H
 clear h
 replace H:=Option.bind_eq_some_iff.mp H
 obtain ⟨⟨t491,t492⟩,A30,H⟩:=H
 try dsimp -simprocs -eta only at H
 have A3:=Aside0.mk A30
 clear A30
 simp only [Option.some.injEq,Prod.mk.injEq] at H
 obtain ⟨rfl,rfl⟩:=H
 go_enter Tryz.func116,Tryz.ntmps116
 go_wp2_with (first | ((with_reducible refine gate_callee (f:=144) rfl ?_);refine goesL_ (some 8) rfl rfl Tryz.func144 (by kernel_rfl) rfl #[.string a0,.string a1] rfl q71_ ?_;(with_reducible refine (stringslite_CutSuffix.calls a0 a1 t491 t492 _ A3.out).mono ?_);rintro e w' ⟨rfl,⟨nd,rfl⟩⟩;refine ⟨_,rfl,?_⟩))
 go_ret2
 exact ⟨q92_,q108_⟩
def impl_inHole.f (a0:ByteArray) (a1:ByteArray) (a2:ByteArray):Option (ByteArray × Bool):=(strings_Cut.f a0 a1).bind fun bt493 => ((strings_CutPrefix.f a2 bt493.1).bind fun bt496 => ((strings_CutSuffix.f bt496.1 bt493.2.1).bind fun bt498 => (if bt496.2 = true then (some (bt498.1,bt498.2)) else (some (bt498.1,false)))))
theorem impl_inHole.calls (a0:ByteArray) (a1:ByteArray) (a2:ByteArray) (r1:ByteArray) (r2:Bool) (w:World) (h:impl_inHole.f a0 a1 a2 = some (r1,r2)) (hG:Go.Proofs.YtodlnnoekccmmaaGreatDoor.LibW.GL w:=by first | exact hG | exact hG.below q10_ | exact hG.drewN _) :
  Calls Tryz.prog 67 #[.string a0,.string a1,.string a2] w fun e w' => e = .returned (.tuple #[.string r1,.bool r2]) ∧ Drawn0 w w':=by
 have H:=h;unfold impl_inHole.f at H
 clear h
 replace H:=Option.bind_eq_some_iff.mp H
 obtain ⟨⟨t493,t494,t495⟩,A40,H⟩:=H
 try dsimp -simprocs -eta only at H
 have A4:=Aside0.mk A40
 clear A40
 replace H:=Option.bind_eq_some_iff.mp H
 obtain ⟨⟨t496,t497⟩,A50,H⟩:=H
 try dsimp -simprocs -eta only at H
 have A5:=Aside0.mk A50
 clear A50
 replace H:=Option.bind_eq_some_iff.mp H
 obtain ⟨⟨t498,t499⟩,A60,H⟩:=H
 try dsimp -simprocs -eta only at H
 have A6:=Aside0.mk A60
 clear A60
 by_cases c7:t497 = true
 ·subst c7
  rewrite [if_pos rfl] at H
  simp only [Option.some.injEq,Prod.mk.injEq] at H
  obtain ⟨rfl,rfl⟩:=H
  go_enter Tryz.func67,Tryz.ntmps67
  go_wp2_with (first | ((with_reducible refine gate_callee (f:=114) rfl ?_);refine goesL_ (some 16) rfl rfl Tryz.func114 (by kernel_rfl) rfl #[.string a0,.string a1] rfl q71_ ?_;(with_reducible refine (strings_Cut.calls a0 a1 t493 t494 t495 _ A4.out).mono ?_);rintro e w' ⟨rfl,⟨nd,rfl⟩⟩;refine ⟨_,rfl,?_⟩) | ((with_reducible refine gate_callee (f:=115) rfl ?_);refine goesL_ (some 23) rfl rfl Tryz.func115 (by kernel_rfl) rfl #[.string a2,.string t493] rfl q71_ ?_;(with_reducible refine (strings_CutPrefix.calls a2 t493 t496 true _ A5.out).mono ?_);rintro e w' ⟨rfl,⟨nd,rfl⟩⟩;refine ⟨_,rfl,?_⟩) | ((with_reducible refine gate_callee (f:=116) rfl ?_);refine goesL_ (some 29) rfl rfl Tryz.func116 (by kernel_rfl) rfl #[.string t496,.string t494] rfl q71_ ?_;(with_reducible refine (strings_CutSuffix.calls t496 t494 t498 t499 _ A6.out).mono ?_);rintro e w' ⟨rfl,⟨nd,rfl⟩⟩;refine ⟨_,rfl,?_⟩))
  go_ret2
  exact ⟨q92_,q108_⟩
 replace c7:=Bool.eq_false_iff.mpr c7
 subst c7
 rewrite [if_neg (show ¬ (false = true) by decide)] at H
 simp only [Option.some.injEq,Prod.mk.injEq] at H
 obtain ⟨rfl,rfl⟩:=H
 go_enter Tryz.func67,Tryz.ntmps67
 go_wp2_with (first | ((with_reducible refine gate_callee (f:=114) rfl ?_);refine goesL_ (some 16) rfl rfl Tryz.func114 (by kernel_rfl) rfl #[.string a0,.string a1] rfl q71_ ?_;(with_reducible refine (strings_Cut.calls a0 a1 t493 t494 t495 _ A4.out).mono ?_);rintro e w' ⟨rfl,⟨nd,rfl⟩⟩;refine ⟨_,rfl,?_⟩) | ((with_reducible refine gate_callee (f:=115) rfl ?_);refine goesL_ (some 23) rfl rfl Tryz.func115 (by kernel_rfl) rfl #[.string a2,.string t493] rfl q71_ ?_;(with_reducible refine (strings_CutPrefix.calls a2 t493 t496 false _ A5.out).mono ?_);rintro e w' ⟨rfl,⟨nd,rfl⟩⟩;refine ⟨_,rfl,?_⟩) | ((with_reducible refine gate_callee (f:=116) rfl ?_);refine goesL_ (some 29) rfl rfl Tryz.func116 (by kernel_rfl) rfl #[.string t496,.string t494] rfl q71_ ?_;(with_reducible refine (strings_CutSuffix.calls t496 t494 t498 t499 _ A6.out).mono ?_);rintro e w' ⟨rfl,⟨nd,rfl⟩⟩;refine ⟨_,rfl,?_⟩))
 go_ret2
 exact ⟨q92_,q108_⟩
def strings_HasPrefix.f (a0:ByteArray) (a1:ByteArray):Option (Bool):=(stringslite_HasPrefix.f a0 a1).bind fun t500 => (some t500)
theorem strings_HasPrefix.calls (a0:ByteArray) (a1:ByteArray) (r:Bool) (w:World) (h:strings_HasPrefix.f a0 a1 = some r) :
  Calls Tryz.prog 117 #[.string a0,.string a1] w fun e w' => e = .returned (.bool r) ∧ Drawn0 w w':=by
 have H:=h;unfold strings_HasPrefix.f at H
 clear h
 replace H:=Option.bind_eq_some_iff.mp H
 obtain ⟨t500,A30,H⟩:=H
 have A3:=Aside0.mk A30
 clear A30
 obtain rfl:=Option.some.inj H
 go_enter Tryz.func117,Tryz.ntmps117
 go_wp2_with (first | ((with_reducible refine gate_callee (f:=145) rfl ?_);refine goesL_ (some 7) rfl rfl Tryz.func145 (by kernel_rfl) rfl #[.string a0,.string a1] rfl q71_ ?_;(with_reducible refine (stringslite_HasPrefix.calls a0 a1 t500 _ A3.out).mono ?_);rintro e w' ⟨rfl,⟨nd,rfl⟩⟩;refine ⟨_,rfl,?_⟩))
 go_ret
 exact ⟨q92_,q108_⟩
def impl_valueOf.l0:Nat → ByteArray → ByteArray → Int → Int → Int → Option (Int × Bool)
 | 0,_,_,_,_,_ => none
 | k + 1,x0,x1,x6,x10,x11 => if x11 < x10 then (if 0 ≤ x11 then (if x11 < (x0.size:Int) then ((strings_IndexByte.f x1 (bt x0 x11)).bind fun t501 => (if t501 < 0 then (some (0,false)) else (if x6 > 65535 then (some (0,false)) else (impl_valueOf.l0 k x0 x1 (wrap64 ((wrap64 (x6 * (x1.size:Int))) + t501)) x10 (wrap64 (x11 + 1)))))) else (none)) else (none)) else (if x0.toList = ([]:List UInt8) then (some (x6,false)) else (some (x6,decide (x6 ≤ 65535))))
def impl_valueOf.f (k:Nat) (a0:ByteArray) (a1:ByteArray):Option (Int × Bool):=impl_valueOf.l0 k a0 a1 0 (a0.size:Int) 0
theorem impl_valueOf.calls (k:Nat) (a0:ByteArray) (a1:ByteArray) (r1:Int) (r2:Bool) (w:World) (h:impl_valueOf.f k a0 a1 = some (r1,r2)) :
  Calls Tryz.prog 118 #[.string a0,.string a1] w fun e w' => e = .returned (.tuple #[.int .i64 r1,.bool r2]) ∧ Drawn0 w w':=by
 have H:=h;unfold impl_valueOf.f at H
 clear h
 have H':=Aside0.mk H
 clear H
 go_enter Tryz.func118,Tryz.ntmps118
 go_wp2
 go_loopg [6,11] k (fun kq v6 v11 w' => ∃ (x6_1:Int) (x11_1:Int),v6 = .int .i64 x6_1 ∧ v11 = .int .i64 x11_1 ∧ Aside0 (impl_valueOf.l0 kq a0 a1 x6_1 (a0.size:Int) x11_1 = some (r1,r2)) ∧ Aside0 (kq ≤ k) ∧ Drawn0 w w')
 case atStart => exact ⟨(0),(0),q92_,q92_,H',⟨Nat.le_refl _⟩,q108_⟩
 clear H'
 try clear c1
 try clear p2
 obtain ⟨x6_1,x11_1,rfl,rfl,HA,HK1,⟨m1,rfl⟩⟩:=hrel
 cases gk with
 | zero => exact absurd HA.out (by simp [impl_valueOf.l0])
 | succ k1 =>
  have H:=HA.out
  clear HA
  simp only [impl_valueOf.l0] at H
  by_cases c3:x11_1 < (a0.size:Int)
  ·rw [if_pos c3] at H
   have c3b0:=decide_eq_true c3
   clear c3
   by_cases c4:0 ≤ x11_1
   rotate_left
   ·rw [if_neg c4] at H
    exact absurd H (by simp)
   rw [if_pos c4] at H
   have c4b0:=decide_eq_true c4
   clear c4
   by_cases c5:x11_1 < (a0.size:Int)
   rotate_left
   ·rw [if_neg c5] at H
    exact absurd H (by simp)
   rw [if_pos c5] at H
   have c5b0:=decide_eq_true c5
   clear c5
   replace H:=Option.bind_eq_some_iff.mp H
   obtain ⟨t501,A70,H⟩:=H
   have A7:=Aside0.mk A70
   clear A70
   by_cases c8:t501 < 0
   ·rw [if_pos c8] at H
    have c8b0:=decide_eq_true c8
    clear c8
    simp only [Option.some.injEq,Prod.mk.injEq] at H
    obtain ⟨rfl,rfl⟩:=H
    have p6:0 ≤ (x11_1:Int):=of_decide_eq_true q109_
    have q6:x11_1 < (a0.size:Int):=of_decide_eq_true q109_
    have hx6:=bt_at a0 x11_1
    replace p6:=eq_true p6
    replace q6:=eq_true q6
    go_wp2_with (first | ((with_reducible refine gate_callee (f:=146) rfl ?_);refine goesL_ (some 18) rfl rfl Tryz.func146 (by kernel_rfl) rfl #[.string a1,.int .u8 (bt a0 x11_1)] rfl q71_ ?_;(with_reducible refine (strings_IndexByte.calls a1 (bt a0 x11_1) t501 _ A7.out).mono ?_);rintro e w' ⟨rfl,⟨nd,rfl⟩⟩;refine ⟨_,rfl,?_⟩))
    go_ret2
    exact ⟨q92_,q108_⟩
   rw [if_neg c8] at H
   have c8b0:=decide_eq_false c8
   clear c8
   by_cases c9:x6_1 > 65535
   ·rw [if_pos c9] at H
    have c9b0:decide (65535 < x6_1) = true:=decide_eq_true c9
    clear c9
    simp only [Option.some.injEq,Prod.mk.injEq] at H
    obtain ⟨rfl,rfl⟩:=H
    have p6:0 ≤ (x11_1:Int):=of_decide_eq_true q109_
    have q6:x11_1 < (a0.size:Int):=of_decide_eq_true q109_
    have hx6:=bt_at a0 x11_1
    replace p6:=eq_true p6
    replace q6:=eq_true q6
    go_wp2_with (first | ((with_reducible refine gate_callee (f:=146) rfl ?_);refine goesL_ (some 18) rfl rfl Tryz.func146 (by kernel_rfl) rfl #[.string a1,.int .u8 (bt a0 x11_1)] rfl q71_ ?_;(with_reducible refine (strings_IndexByte.calls a1 (bt a0 x11_1) t501 _ A7.out).mono ?_);rintro e w' ⟨rfl,⟨nd,rfl⟩⟩;refine ⟨_,rfl,?_⟩))
    go_ret2
    exact ⟨q92_,q108_⟩
   rw [if_neg c9] at H
   have c9b0:decide (65535 < x6_1) = false:=decide_eq_false c9
   clear c9
   have H':=Aside0.mk H
   clear H
   have p6:0 ≤ (x11_1:Int):=of_decide_eq_true q109_
   have q6:x11_1 < (a0.size:Int):=of_decide_eq_true q109_
   have hx6:=bt_at a0 x11_1
   replace p6:=eq_true p6
   replace q6:=eq_true q6
   go_wp2_with (first | ((with_reducible refine gate_callee (f:=146) rfl ?_);refine goesL_ (some 18) rfl rfl Tryz.func146 (by kernel_rfl) rfl #[.string a1,.int .u8 (bt a0 x11_1)] rfl q71_ ?_;(with_reducible refine (strings_IndexByte.calls a1 (bt a0 x11_1) t501 _ A7.out).mono ?_);rintro e w' ⟨rfl,⟨nd,rfl⟩⟩;refine ⟨_,rfl,?_⟩))
   go_roundg k1
   case measure => have:=HK1.out;omega
   case rel => exact ⟨(wrap64 ((wrap64 (x6_1 * (a1.size:Int))) + t501)),(wrap64 (x11_1 + 1)),q92_,q92_,H',⟨by have:=HK1.out;omega⟩,q108_⟩
  rw [if_neg c3] at H
  have c3b0:=decide_eq_false c3
  clear c3
  by_cases c10:a0.toList = ([]:List UInt8)
  ·rw [if_pos c10] at H
   have c10b0:(a0.toList == ([]:List UInt8)) = true:=beq_iff_eq.mpr c10
   have c10b1:(a0.toList != ([]:List UInt8)) = false:=bne_eq_false_iff_eq.mpr c10
   have c10b9:a0.toList.isEmpty = true:=(isEmpty_beq _).trans c10b0
   clear c10
   simp only [Option.some.injEq,Prod.mk.injEq] at H
   obtain ⟨rfl,rfl⟩:=H
   go_wp2
   go_ret2
   exact ⟨q92_,q108_⟩
  rw [if_neg c10] at H
  have c10b0:(a0.toList == ([]:List UInt8)) = false:=beq_eq_false_iff_ne.mpr c10
  have c10b1:(a0.toList != ([]:List UInt8)) = true:=bne_iff_ne.mpr c10
  have c10b9:a0.toList.isEmpty = false:=(isEmpty_beq _).trans c10b0
  simp only [Option.some.injEq,Prod.mk.injEq] at H
  obtain ⟨rfl,rfl⟩:=H
  go_wp2
  go_ret2
  exact ⟨q92_,q108_⟩
end Go.Proofs.YtodlnnoekccmmaaGreatDoor.QFnInsTexts
