/- The machine's side of a law,written by a program of this session for this claim. -/
import Derived.Test.YtodlnnoekccmmaaGreatDoorIQq
import Derived.Test.YtodlnnoekccmmaaGreatDoorIQFnInsTextsx0
import Derived.Test.YtodlnnoekccmmaaGreatDoorIQFnInsTextsx7
import Derived.Test.YtodlnnoekccmmaaGreatDoorIQFnInsTextsx8
import Derived.Test.YtodlnnoekccmmaaGreatDoorIQFnInsTextsx10
import Derived.Test.YtodlnnoekccmmaaGreatDoorIQFnInsTextsx13
namespace Go.Proofs.YtodlnnoekccmmaaGreatDoor.QFnInsTexts
open Go.Proofs.YtodlnnoekccmmaaGreatDoor.Qq
open Go.RowKit Go.Proofs.YtodlnnoekccmmaaGreatDoor.LibX Go.Proofs.YtodlnnoekccmmaaGreatDoor.LibE Go.Proofs.YtodlnnoekccmmaaGreatDoor.LibCB Go.Proofs.YtodlnnoekccmmaaGreatDoorW.PrintWords Go.Proofs.YtodlnnoekccmmaaGreatDoorW.PrintLast Go.Proofs.YtodlnnoekccmmaaGreatDoorW.PrintMore
attribute [local go_sem] max2_int min2_int max_two min_two max_three min_three max_four min_four   -- for this text's walks alone
set_option maxHeartbeats 8000000
set_option maxRecDepth 100000
set_option linter.unusedVariables false
set_option linter.unusedSimpArgs false
def spec_InsOk.j0:Nat → Bool → Int → Bool → Int → Option (Bool)
 | 0,_,_,_,_ => none
 | k + 1,x26,x534000,x534001,x534002 => if x26 = true then ((spec_l1In.f x534002 0 255).bind fun t539 => (some t539)) else (some (x534002 == 0))
def spec_InsOk.f (k:Nat) (a0_0:Int) (a0_1:Bool) (a0_2:Int):Option (Bool):=(spec_LengthOf.f k a0_0 a0_1).bind fun t534 => (if t534 = 0 then (some false) else ((spec_l3Template.f k a0_0 a0_1).bind fun t535 => ((spec_l3Hole.f k t535).bind fun bt536 => (if bt536.2.toList = ([110,49,54]:List UInt8) then ((spec_l1In.f a0_2 0 65535).bind fun t538 => (some t538)) else (if bt536.2.toList = ([110,56]:List UInt8) then (spec_InsOk.j0 k (bt536.2.toList == ([110,56]:List UInt8)) a0_0 a0_1 a0_2) else (spec_InsOk.j0 k (bt536.2.toList == ([101,56]:List UInt8)) a0_0 a0_1 a0_2))))))
theorem spec_InsOk.calls (k:Nat) (a0_0:Int) (a0_1:Bool) (a0_2:Int) (r:Bool) (w:World) (h:spec_InsOk.f k a0_0 a0_1 a0_2 = some r) :
  Calls Tryz.prog 21 #[.agg #[.int .i64 a0_0,.bool a0_1,.int .i64 a0_2]] w fun e w' => e = .returned (.bool r) ∧ Below w.heap.size w w':=by
 have hu30:=Tryz.underlying30
 have HB:=Aside0.mk (Below.refl w.heap.size w)
 have H:=h;unfold spec_InsOk.f at H
 clear h
 replace H:=Option.bind_eq_some_iff.mp H
 obtain ⟨t534,A20,H⟩:=H
 have A2:=Aside0.mk A20
 clear A20
 by_cases c3:t534 = 0
 ·rw [if_pos c3] at H
  have c3b0:(t534 == 0) = true:=beq_iff_eq.mpr c3
  have c3b1:(t534 != 0) = false:=bne_eq_false_iff_eq.mpr c3
  clear c3
  obtain rfl:=Option.some.inj H
  go_enter Tryz.func21,Tryz.ntmps21
  go_wp2_with (first | ((with_reducible refine gate_dst (N:=1) rfl ?_);refine box_event ?hg (N:=1) ?hd (cs:=#[.int .i64 a0_0,.bool a0_1,.int .i64 a0_2]) (t:=30) ?hr ?_;(case hd => rfl);(case hg => rfl);(case hr => exact q139_);intro gb533 hg w4 hbox hb;have n0_:=Aside0.mk (below_step q72_ hb);have n1_:=Aside0.mk (hbox);have n2_:=Aside0.mk ((q56_:w.heap.size ≤ gb533));have n3_:=Aside0.mk ((q56_:w.heap.size ≤ gb533));clear HB;have HB:=n0_;have BK533:=n1_;have GW533:=n2_;have GE533:=n3_;clear n0_ n1_ n2_ n3_;clear hb hbox hg;have hcz5_0:w4.cell? ⟨gb533,0,none⟩ = some (.int .i64 a0_0):=(blk_cell BK533.out 0).trans rfl;have hcz5_1:w4.cell? ⟨gb533,1,none⟩ = some (.bool a0_1):=(blk_cell BK533.out 1).trans rfl;have hcz5_2:w4.cell? ⟨gb533,2,none⟩ = some (.int .i64 a0_2):=(blk_cell BK533.out 2).trans rfl;have hfz5_0:=blk_frozen BK533.out 0;have hfz5_1:=blk_frozen BK533.out 1;have hfz5_2:=blk_frozen BK533.out 2) | ((with_reducible refine gate_callee (f:=15) rfl ?_);refine goesL_ (some 9) rfl rfl Tryz.func15 (by kernel_rfl) rfl #[.int .i64 a0_0,.bool a0_1] rfl q71_ ?_;(with_reducible refine (spec_LengthOf.calls k a0_0 a0_1 t534 _ A2.out).mono ?_);rintro e w6 ⟨rfl,hb⟩;refine ⟨_,rfl,?_⟩;have n0_:=Aside0.mk (blk_below (g:=gb533) (o:=.cells #[.int .i64 a0_0,.bool a0_1,.int .i64 a0_2] 30 (0,0)) q83_ hb);have n1_:=Aside0.mk (below_step q62_ hb);clear BK533;clear HB;have BK533:=n0_;have HB:=n1_;clear n0_ n1_;(try clear hb)))
  go_ret
  exact ⟨q74_,q62_⟩
 rw [if_neg c3] at H
 have c3b0:(t534 == 0) = false:=beq_eq_false_iff_ne.mpr c3
 have c3b1:(t534 != 0) = true:=bne_iff_ne.mpr c3
 replace H:=Option.bind_eq_some_iff.mp H
 obtain ⟨t535,A70,H⟩:=H
 have A7:=Aside0.mk A70
 clear A70
 replace H:=Option.bind_eq_some_iff.mp H
 obtain ⟨⟨t536,t537⟩,A80,H⟩:=H
 try dsimp -simprocs -eta only at H
 have A8:=Aside0.mk A80
 clear A80
 by_cases c9:t537.toList = ([110,49,54]:List UInt8)
 ·rw [if_pos c9] at H
  have c9b0:(t537.toList == ([110,49,54]:List UInt8)) = true:=beq_iff_eq.mpr c9
  have c9b1:(t537.toList != ([110,49,54]:List UInt8)) = false:=bne_eq_false_iff_eq.mpr c9
  clear c9
  replace H:=Option.bind_eq_some_iff.mp H
  obtain ⟨t538,A100,H⟩:=H
  have A10:=Aside0.mk A100
  clear A100
  obtain rfl:=Option.some.inj H
  go_enter Tryz.func21,Tryz.ntmps21
  go_wp2_with (first | ((with_reducible refine gate_dst (N:=1) rfl ?_);refine box_event ?hg (N:=1) ?hd (cs:=#[.int .i64 a0_0,.bool a0_1,.int .i64 a0_2]) (t:=30) ?hr ?_;(case hd => rfl);(case hg => rfl);(case hr => exact q139_);intro gb533 hg w11 hbox hb;have n0_:=Aside0.mk (below_step q72_ hb);have n1_:=Aside0.mk (hbox);have n2_:=Aside0.mk ((q56_:w.heap.size ≤ gb533));have n3_:=Aside0.mk ((q56_:w.heap.size ≤ gb533));clear HB;have HB:=n0_;have BK533:=n1_;have GW533:=n2_;have GE533:=n3_;clear n0_ n1_ n2_ n3_;clear hb hbox hg;have hcz12_0:w11.cell? ⟨gb533,0,none⟩ = some (.int .i64 a0_0):=(blk_cell BK533.out 0).trans rfl;have hcz12_1:w11.cell? ⟨gb533,1,none⟩ = some (.bool a0_1):=(blk_cell BK533.out 1).trans rfl;have hcz12_2:w11.cell? ⟨gb533,2,none⟩ = some (.int .i64 a0_2):=(blk_cell BK533.out 2).trans rfl;have hfz12_0:=blk_frozen BK533.out 0;have hfz12_1:=blk_frozen BK533.out 1;have hfz12_2:=blk_frozen BK533.out 2) | ((with_reducible refine gate_callee (f:=15) rfl ?_);refine goesL_ (some 9) rfl rfl Tryz.func15 (by kernel_rfl) rfl #[.int .i64 a0_0,.bool a0_1] rfl q71_ ?_;(with_reducible refine (spec_LengthOf.calls k a0_0 a0_1 t534 _ A2.out).mono ?_);rintro e w13 ⟨rfl,hb⟩;refine ⟨_,rfl,?_⟩;have n0_:=Aside0.mk (blk_below (g:=gb533) (o:=.cells #[.int .i64 a0_0,.bool a0_1,.int .i64 a0_2] 30 (0,0)) q83_ hb);have n1_:=Aside0.mk (below_step q62_ hb);clear BK533;clear HB;have BK533:=n0_;have HB:=n1_;clear n0_ n1_;(try clear hb);have hcz14_0:w13.cell? ⟨gb533,0,none⟩ = some (.int .i64 a0_0):=(blk_cell BK533.out 0).trans rfl;have hcz14_1:w13.cell? ⟨gb533,1,none⟩ = some (.bool a0_1):=(blk_cell BK533.out 1).trans rfl;have hcz14_2:w13.cell? ⟨gb533,2,none⟩ = some (.int .i64 a0_2):=(blk_cell BK533.out 2).trans rfl;have hfz14_0:=blk_frozen BK533.out 0;have hfz14_1:=blk_frozen BK533.out 1;have hfz14_2:=blk_frozen BK533.out 2) | ((with_reducible refine gate_callee (f:=60) rfl ?_);refine goesL_ (some 16) rfl rfl Tryz.func60 (by kernel_rfl) rfl #[.int .i64 a0_0,.bool a0_1] rfl q71_ ?_;(with_reducible refine (spec_l3Template.calls k a0_0 a0_1 t535 _ A7.out).mono ?_);rintro e w15 ⟨rfl,hb⟩;refine ⟨_,rfl,?_⟩;have n0_:=Aside0.mk (blk_below (g:=gb533) (o:=.cells #[.int .i64 a0_0,.bool a0_1,.int .i64 a0_2] 30 (0,0)) q83_ hb);have n1_:=Aside0.mk (below_step q62_ hb);clear BK533;clear HB;have BK533:=n0_;have HB:=n1_;clear n0_ n1_;(try clear hb)) | ((with_reducible refine gate_callee (f:=59) rfl ?_);refine goesL_ (some 17) rfl rfl Tryz.func59 (by kernel_rfl) rfl #[.string t535] rfl q71_ ?_;(with_reducible refine (spec_l3Hole.calls k t535 t536 t537 _ A8.out).mono ?_);rintro e w16 ⟨rfl,hb⟩;refine ⟨_,rfl,?_⟩;have n0_:=Aside0.mk (blk_below (g:=gb533) (o:=.cells #[.int .i64 a0_0,.bool a0_1,.int .i64 a0_2] 30 (0,0)) q83_ hb);have n1_:=Aside0.mk (below_step q62_ hb);clear BK533;clear HB;have BK533:=n0_;have HB:=n1_;clear n0_ n1_;(try clear hb);have hcz17_0:w16.cell? ⟨gb533,0,none⟩ = some (.int .i64 a0_0):=(blk_cell BK533.out 0).trans rfl;have hcz17_1:w16.cell? ⟨gb533,1,none⟩ = some (.bool a0_1):=(blk_cell BK533.out 1).trans rfl;have hcz17_2:w16.cell? ⟨gb533,2,none⟩ = some (.int .i64 a0_2):=(blk_cell BK533.out 2).trans rfl;have hfz17_0:=blk_frozen BK533.out 0;have hfz17_1:=blk_frozen BK533.out 1;have hfz17_2:=blk_frozen BK533.out 2) | ((with_reducible refine gate_callee (f:=51) rfl ?_);refine goesL_ (some 25) rfl rfl Tryz.func51 (by kernel_rfl) rfl #[.int .i64 a0_2,.int .i64 0,.int .i64 65535] rfl q71_ ?_;(with_reducible refine (spec_l1In.calls a0_2 0 65535 t538 _ A10.out).mono ?_);rintro e w' ⟨rfl,⟨nd,rfl⟩⟩;refine ⟨_,rfl,?_⟩))
  go_ret
  exact ⟨q74_,q62_⟩
 rw [if_neg c9] at H
 have c9b0:(t537.toList == ([110,49,54]:List UInt8)) = false:=beq_eq_false_iff_ne.mpr c9
 have c9b1:(t537.toList != ([110,49,54]:List UInt8)) = true:=bne_iff_ne.mpr c9
 have HC18:=Aside0.mk H
 clear H
 go_enter Tryz.func21,Tryz.ntmps21
 go_upto_if 26 with (first | ((with_reducible refine gate_dst (N:=1) rfl ?_);refine box_event ?hg (N:=1) ?hd (cs:=#[.int .i64 a0_0,.bool a0_1,.int .i64 a0_2]) (t:=30) ?hr ?_;(case hd => rfl);(case hg => rfl);(case hr => exact q139_);intro gb533 hg w19 hbox hb;have n0_:=Aside0.mk (below_step q72_ hb);have n1_:=Aside0.mk (hbox);have n2_:=Aside0.mk ((q56_:w.heap.size ≤ gb533));have n3_:=Aside0.mk ((q56_:w.heap.size ≤ gb533));clear HB;have HB:=n0_;have BK533:=n1_;have GW533:=n2_;have GE533:=n3_;clear n0_ n1_ n2_ n3_;clear hb hbox hg;have hcz20_0:w19.cell? ⟨gb533,0,none⟩ = some (.int .i64 a0_0):=(blk_cell BK533.out 0).trans rfl;have hcz20_1:w19.cell? ⟨gb533,1,none⟩ = some (.bool a0_1):=(blk_cell BK533.out 1).trans rfl;have hcz20_2:w19.cell? ⟨gb533,2,none⟩ = some (.int .i64 a0_2):=(blk_cell BK533.out 2).trans rfl;have hfz20_0:=blk_frozen BK533.out 0;have hfz20_1:=blk_frozen BK533.out 1;have hfz20_2:=blk_frozen BK533.out 2) | ((with_reducible refine gate_callee (f:=15) rfl ?_);refine goesL_ (some 9) rfl rfl Tryz.func15 (by kernel_rfl) rfl #[.int .i64 a0_0,.bool a0_1] rfl q71_ ?_;(with_reducible refine (spec_LengthOf.calls k a0_0 a0_1 t534 _ A2.out).mono ?_);rintro e w21 ⟨rfl,hb⟩;refine ⟨_,rfl,?_⟩;have n0_:=Aside0.mk (blk_below (g:=gb533) (o:=.cells #[.int .i64 a0_0,.bool a0_1,.int .i64 a0_2] 30 (0,0)) q83_ hb);have n1_:=Aside0.mk (below_step q62_ hb);clear BK533;clear HB;have BK533:=n0_;have HB:=n1_;clear n0_ n1_;(try clear hb);have hcz22_0:w21.cell? ⟨gb533,0,none⟩ = some (.int .i64 a0_0):=(blk_cell BK533.out 0).trans rfl;have hcz22_1:w21.cell? ⟨gb533,1,none⟩ = some (.bool a0_1):=(blk_cell BK533.out 1).trans rfl;have hcz22_2:w21.cell? ⟨gb533,2,none⟩ = some (.int .i64 a0_2):=(blk_cell BK533.out 2).trans rfl;have hfz22_0:=blk_frozen BK533.out 0;have hfz22_1:=blk_frozen BK533.out 1;have hfz22_2:=blk_frozen BK533.out 2) | ((with_reducible refine gate_callee (f:=60) rfl ?_);refine goesL_ (some 16) rfl rfl Tryz.func60 (by kernel_rfl) rfl #[.int .i64 a0_0,.bool a0_1] rfl q71_ ?_;(with_reducible refine (spec_l3Template.calls k a0_0 a0_1 t535 _ A7.out).mono ?_);rintro e w23 ⟨rfl,hb⟩;refine ⟨_,rfl,?_⟩;have n0_:=Aside0.mk (blk_below (g:=gb533) (o:=.cells #[.int .i64 a0_0,.bool a0_1,.int .i64 a0_2] 30 (0,0)) q83_ hb);have n1_:=Aside0.mk (below_step q62_ hb);clear BK533;clear HB;have BK533:=n0_;have HB:=n1_;clear n0_ n1_;(try clear hb)) | ((with_reducible refine gate_callee (f:=59) rfl ?_);refine goesL_ (some 17) rfl rfl Tryz.func59 (by kernel_rfl) rfl #[.string t535] rfl q71_ ?_;(with_reducible refine (spec_l3Hole.calls k t535 t536 t537 _ A8.out).mono ?_);rintro e w24 ⟨rfl,hb⟩;refine ⟨_,rfl,?_⟩;have n0_:=Aside0.mk (blk_below (g:=gb533) (o:=.cells #[.int .i64 a0_0,.bool a0_1,.int .i64 a0_2] 30 (0,0)) q83_ hb);have n1_:=Aside0.mk (below_step q62_ hb);clear BK533;clear HB;have BK533:=n0_;have HB:=n1_;clear n0_ n1_;(try clear hb)))
 (try simp only [Act.put,List.setIfInBounds_toArray,List.set_cons_zero,List.set_cons_succ])
 go_cut [26] (fun v26 wc => ∃ (kq:Nat) (x26_17:Bool),v26 = .bool x26_17 ∧ Aside0 (spec_InsOk.j0 kq x26_17 a0_0 a0_1 a0_2 = some r) ∧ Aside0 (kq ≤ k) ∧ Aside0 (wc.heap[gb533]? = some (.cells #[.int .i64 a0_0,.bool a0_1,.int .i64 a0_2] 30 (0,0))) ∧ Aside0 (Below w.heap.size w wc))
 case first =>
  have H:=HC18.out
  clear HC18
  by_cases c25:t537.toList = ([110,56]:List UInt8)
  ·rw [if_pos c25] at H
   have c25b0:(t537.toList == ([110,56]:List UInt8)) = true:=beq_iff_eq.mpr c25
   have c25b1:(t537.toList != ([110,56]:List UInt8)) = false:=bne_eq_false_iff_eq.mpr c25
   clear c25
   (first | rw [c25b0] | (simp only [i64_w,i32_w];rw [c25b0]) | rw [c25b9] | skip)
   have H':=Aside0.mk H
   clear H
   go_wp2
   go_meet
   case rel => exact ⟨_,((t537.toList == ([110,56]:List UInt8))),q92_,H',⟨q121_⟩,⟨q83_⟩,⟨q62_⟩⟩
  rw [if_neg c25] at H
  have c25b0:(t537.toList == ([110,56]:List UInt8)) = false:=beq_eq_false_iff_ne.mpr c25
  have c25b1:(t537.toList != ([110,56]:List UInt8)) = true:=bne_iff_ne.mpr c25
  (first | rw [c25b0] | (simp only [i64_w,i32_w];rw [c25b0]) | rw [c25b9] | skip)
  have H':=Aside0.mk H
  clear H
  go_wp2
  go_meet
  case rel => exact ⟨_,((t537.toList == ([101,56]:List UInt8))),q92_,H',⟨q121_⟩,⟨q83_⟩,⟨q62_⟩⟩
 clear HC18
 try clear c1
 try clear c2
 try clear p2
 try clear c3
 try clear c3b0
 try clear c3b1
 try clear c5
 try clear c6
 try clear p6
 try clear c9
 try clear c9b0
 try clear c9b1
 try clear c15
 try clear c21
 try clear c25
 try clear c25b0
 try clear c25b1
 try clear hcz12_0 hcz12_1 hcz12_2
 try clear hcz14_0 hcz14_1 hcz14_2
 try clear hcz17_0 hcz17_1 hcz17_2
 try clear hcz20_0 hcz20_1 hcz20_2
 try clear hcz22_0 hcz22_1 hcz22_2
 try clear hcz5_0 hcz5_1 hcz5_2
 try clear hfz12_0 hfz12_1 hfz12_2
 try clear hfz14_0 hfz14_1 hfz14_2
 try clear hfz17_0 hfz17_1 hfz17_2
 try clear hfz20_0 hfz20_1 hfz20_2
 try clear hfz22_0 hfz22_1 hfz22_2
 try clear hfz5_0 hfz5_1 hfz5_2
 obtain ⟨kq,x26_17,rfl,HA,HJ17,BK533,HB⟩:=hcut
 cases kq with
 | zero => exact absurd HA.out (by simp [spec_InsOk.j0])
 | succ kj17 =>
  have H:=HA.out
  clear HA
  simp only [spec_InsOk.j0] at H
  by_cases c26:x26_17 = true
  ·subst c26
   rewrite [if_pos rfl] at H
   replace H:=Option.bind_eq_some_iff.mp H
   obtain ⟨t539,A270,H⟩:=H
   have A27:=Aside0.mk A270
   clear A270
   obtain rfl:=Option.some.inj H
   have hcz28_0:wc.cell? ⟨gb533,0,none⟩ = some (.int .i64 a0_0):=bz_ BK533 0
   have hcz28_1:wc.cell? ⟨gb533,1,none⟩ = some (.bool a0_1):=bz_ BK533 1
   have hcz28_2:wc.cell? ⟨gb533,2,none⟩ = some (.int .i64 a0_2):=bz_ BK533 2
   have hfz28_0:=blk_frozen BK533.out 0
   have hfz28_1:=blk_frozen BK533.out 1
   have hfz28_2:=blk_frozen BK533.out 2
   go_wp2_with (first | ((with_reducible refine gate_callee (f:=51) rfl ?_);refine goesL_ (some 31) rfl rfl Tryz.func51 (by kernel_rfl) rfl #[.int .i64 a0_2,.int .i64 0,.int .i64 255] rfl q71_ ?_;(with_reducible refine (spec_l1In.calls a0_2 0 255 t539 _ A27.out).mono ?_);rintro e w' ⟨rfl,⟨nd,rfl⟩⟩;refine ⟨_,rfl,?_⟩))
   go_ret
   exact ⟨q74_,q62_⟩
  replace c26:=Bool.eq_false_iff.mpr c26
  subst c26
  rewrite [if_neg (show ¬ (false = true) by decide)] at H
  obtain rfl:=Option.some.inj H
  have hcz29_0:wc.cell? ⟨gb533,0,none⟩ = some (.int .i64 a0_0):=bz_ BK533 0
  have hcz29_1:wc.cell? ⟨gb533,1,none⟩ = some (.bool a0_1):=bz_ BK533 1
  have hcz29_2:wc.cell? ⟨gb533,2,none⟩ = some (.int .i64 a0_2):=bz_ BK533 2
  have hfz29_0:=blk_frozen BK533.out 0
  have hfz29_1:=blk_frozen BK533.out 1
  have hfz29_2:=blk_frozen BK533.out 2
  go_wp2
  go_ret
  exact ⟨q74_,q62_⟩
def spec_SignedOf.f (a0:Int):Option (Int):=(spec_l1In.f a0 0 255).bind fun t540 => (if t540 = true then (if a0 > 127 then (some (wrap64 (a0 - 256))) else (some a0)) else (some 0))
theorem spec_SignedOf.calls (a0:Int) (r:Int) (w:World) (h:spec_SignedOf.f a0 = some r) :
  Calls Tryz.prog 72 #[.int .i64 a0] w fun e w' => e = .returned (.int .i64 r) ∧ Drawn0 w w':=by
 have H:=h;unfold spec_SignedOf.f at H
 clear h
 replace H:=Option.bind_eq_some_iff.mp H
 obtain ⟨t540,A20,H⟩:=H
 have A2:=Aside0.mk A20
 clear A20
 by_cases c3:t540 = true
 ·subst c3
  rewrite [if_pos rfl] at H
  by_cases c4:a0 > 127
  ·rw [if_pos c4] at H
   have c4b0:decide (127 < a0) = true:=decide_eq_true c4
   clear c4
   obtain rfl:=Option.some.inj H
   go_enter Tryz.func72,Tryz.ntmps72
   go_wp2_with (first | ((with_reducible refine gate_callee (f:=51) rfl ?_);refine goesL_ (some 4) rfl rfl Tryz.func51 (by kernel_rfl) rfl #[.int .i64 a0,.int .i64 0,.int .i64 255] rfl q71_ ?_;(with_reducible refine (spec_l1In.calls a0 0 255 true _ A2.out).mono ?_);rintro e w' ⟨rfl,⟨nd,rfl⟩⟩;refine ⟨_,rfl,?_⟩))
   go_ret
   exact ⟨q92_,q108_⟩
  rw [if_neg c4] at H
  have c4b0:decide (127 < a0) = false:=decide_eq_false c4
  clear c4
  obtain rfl:=Option.some.inj H
  go_enter Tryz.func72,Tryz.ntmps72
  go_wp2_with (first | ((with_reducible refine gate_callee (f:=51) rfl ?_);refine goesL_ (some 4) rfl rfl Tryz.func51 (by kernel_rfl) rfl #[.int .i64 a0,.int .i64 0,.int .i64 255] rfl q71_ ?_;(with_reducible refine (spec_l1In.calls a0 0 255 true _ A2.out).mono ?_);rintro e w' ⟨rfl,⟨nd,rfl⟩⟩;refine ⟨_,rfl,?_⟩))
  go_ret
  exact ⟨q92_,q108_⟩
 replace c3:=Bool.eq_false_iff.mpr c3
 subst c3
 rewrite [if_neg (show ¬ (false = true) by decide)] at H
 obtain rfl:=Option.some.inj H
 go_enter Tryz.func72,Tryz.ntmps72
 go_wp2_with (first | ((with_reducible refine gate_callee (f:=51) rfl ?_);refine goesL_ (some 4) rfl rfl Tryz.func51 (by kernel_rfl) rfl #[.int .i64 a0,.int .i64 0,.int .i64 255] rfl q71_ ?_;(with_reducible refine (spec_l1In.calls a0 0 255 false _ A2.out).mono ?_);rintro e w' ⟨rfl,⟨nd,rfl⟩⟩;refine ⟨_,rfl,?_⟩))
 go_ret
 exact ⟨q92_,q108_⟩
end Go.Proofs.YtodlnnoekccmmaaGreatDoor.QFnInsTexts
