/- The machine's side of a law,written by a program of this session for this claim. -/
import Derived.Test.YtodlnnoekccmmaaGreatDoorIQq
import Derived.Test.YtodlnnoekccmmaaGreatDoorIQFnInsTextsx0
import Derived.Test.YtodlnnoekccmmaaGreatDoorIQFnInsTextsx10
import Derived.Test.YtodlnnoekccmmaaGreatDoorIQFnInsTextsx13
import Derived.Test.YtodlnnoekccmmaaGreatDoorIQFnInsTextsx15
import Derived.Test.YtodlnnoekccmmaaGreatDoorIQFnInsTextsx16
import Derived.Test.YtodlnnoekccmmaaGreatDoorIQFnInsTextsx17
namespace Go.Proofs.YtodlnnoekccmmaaGreatDoor.QFnInsTexts
open Go.Proofs.YtodlnnoekccmmaaGreatDoor.Qq
open Go.RowKit Go.Proofs.YtodlnnoekccmmaaGreatDoor.LibX Go.Proofs.YtodlnnoekccmmaaGreatDoor.LibE Go.Proofs.YtodlnnoekccmmaaGreatDoor.LibCB Go.Proofs.YtodlnnoekccmmaaGreatDoorW.PrintWords Go.Proofs.YtodlnnoekccmmaaGreatDoorW.PrintLast Go.Proofs.YtodlnnoekccmmaaGreatDoorW.PrintMore
attribute [local go_sem] max2_int min2_int max_two min_two max_three min_three max_four min_four   -- for this text's walks alone
set_option maxHeartbeats 8000000
set_option maxRecDepth 100000
set_option linter.unusedVariables false
set_option linter.unusedSimpArgs false
mutual
def spec_ReadInsText.l0:Nat → ByteArray → Int → Option (Int × Bool × Int × Bool)
 | 0,_,_ => none
 | k + 1,x0,x4 => if x4 < 512 then (spec_ReadInsText.j1 k x0 x4 (decide ((x0.size:Int) ≤ 20))) else (spec_ReadInsText.j1 k x0 x4 false)
def spec_ReadInsText.j1:Nat → ByteArray → Int → Bool → Option (Int × Bool × Int × Bool)
 | 0,_,_,_ => none
 | k + 1,x0,x4,x14 => if x14 = true then (if x4 ≥ 256 then (spec_ReadInsText.j2 k x0 x4 false (Int.tmod x4 256) (decide (x4 ≥ 256)) 0) else ((spec_l3Length.f k (Int.tmod x4 256) false).bind fun t596 => (spec_ReadInsText.j2 k x0 x4 (t596 == 0) (Int.tmod x4 256) (decide (x4 ≥ 256)) 0))) else (some (0,false,0,false))
def spec_ReadInsText.j2:Nat → ByteArray → Int → Bool → Int → Bool → Int → Option (Int × Bool × Int × Bool)
 | 0,_,_,_,_,_,_ => none
 | k + 1,x0,x4,x30,x596000,x596001,x596002 => if x30 = true then (spec_ReadInsText.l0 k x0 (wrap64 (x4 + 1))) else ((spec_l3Template.f k x596000 x596001).bind fun t597 => ((spec_l3Fits.f k x0 t597).bind fun bt598 => (if bt598.2 = true then (if bt598.1.toList = ([]:List UInt8) then (spec_ReadInsText.j3 k x0 x4 x596000 x596001 x596002) else ((spec_l3Imm.f k bt598.1).bind fun t600 => (spec_ReadInsText.j3 k x0 x4 x596000 x596001 t600))) else (spec_ReadInsText.l0 k x0 (wrap64 (x4 + 1))))))
def spec_ReadInsText.j3:Nat → ByteArray → Int → Int → Bool → Int → Option (Int × Bool × Int × Bool)
 | 0,_,_,_,_,_ => none
 | k + 1,x0,x4,x596000,x596001,x596002 => (spec_InsText.f k x596000 x596001 x596002).bind fun t601 => (if t601.toList = x0.toList then (some (x596000,x596001,x596002,true)) else (spec_ReadInsText.l0 k x0 (wrap64 (x4 + 1))))
end
def spec_ReadInsText.f (k:Nat) (a0:ByteArray):Option (Int × Bool × Int × Bool):=spec_ReadInsText.l0 k a0 0
theorem spec_ReadInsText.calls (k:Nat) (a0:ByteArray) (r1:Int) (r2:Bool) (r3:Int) (r4:Bool) (w:World) (h:spec_ReadInsText.f k a0 = some (r1,r2,r3,r4)) :
  Calls Tryz.prog 30 #[.string a0] w fun e w' => e = .returned (.tuple #[.agg #[.int .i64 r1,.bool r2,.int .i64 r3],.bool r4]) ∧ Below w.heap.size w w':=by
 have hu30:=Tryz.underlying30
 have HB:=Aside0.mk (Below.refl w.heap.size w)
 have H:(spec_ReadInsText.l0 k a0 0) = some (r1,r2,r3,r4):=h
 clear h
 have H':=Aside0.mk H
 clear H
 go_enter Tryz.func30,Tryz.ntmps30
 go_wp2_with (first | ((with_reducible refine gate_dst (N:=2) rfl ?_);(try (refine gate_guard (by rfl) ?_;dsimp only));refine box_event ?hg (N:=2) ?hd (cs:=#[.int .i64 0,.bool false,.int .i64 0]) (t:=30) ?hr ?_;(case hd => rfl);(case hg => rfl);(case hr => exact q139_);intro gb594 hg w2 hbox hb;have n0_:=Aside0.mk (below_step q72_ hb);have n1_:=Aside0.mk (hbox);have n2_:=Aside0.mk ((q56_:w.heap.size ≤ gb594));have n3_:=Aside0.mk ((q56_:w.heap.size ≤ gb594));clear HB;have HB:=n0_;have BK594:=n1_;have GW594:=n2_;have GE594:=n3_;clear n0_ n1_ n2_ n3_;clear hb hbox hg))
 go_loopg [4] k (fun kq v4 w' => ∃ (x4_1:Int) (x595000_1:Int) (x595001_1:Bool) (x595002_1:Int),v4 = .int .i64 x4_1 ∧ Aside0 (spec_ReadInsText.l0 kq a0 x4_1 = some (r1,r2,r3,r4)) ∧ Aside0 (kq ≤ k) ∧ Aside0 (w'.heap[gb594]? = some (.cells #[.int .i64 x595000_1,.bool x595001_1,.int .i64 x595002_1] 30 (0,0))) ∧ Aside0 (Below w.heap.size w w'))
 case atStart => exact ⟨(0),(0),(false),(0),q92_,H',⟨Nat.le_refl _⟩,⟨q85_⟩,⟨q64_⟩⟩
 clear H'
 try clear p2
 obtain ⟨x4_1,x595000_1,x595001_1,x595002_1,rfl,HA,HK1,BK594,HB⟩:=hrel
 cases gk with
 | zero => exact absurd HA.out (by simp [spec_ReadInsText.l0])
 | succ k1 =>
  have H:=HA.out
  clear HA
  simp only [spec_ReadInsText.l0] at H
  have HC3:=Aside0.mk H
  clear H
  go_upto_region 2 with (fail)
  go_cut [14] (fun v14 wc => ∃ (kq:Nat) (x14_2:Bool),v14 = .bool x14_2 ∧ Aside0 (spec_ReadInsText.j1 kq a0 x4_1 x14_2 = some (r1,r2,r3,r4)) ∧ Aside0 (kq ≤ k1) ∧ Aside0 (wc.heap[gb594]? = some (.cells #[.int .i64 x595000_1,.bool x595001_1,.int .i64 x595002_1] 30 (0,0))) ∧ Aside0 (Below w.heap.size w wc))
  case first =>
   have H:=HC3.out
   clear HC3
   by_cases c4:x4_1 < 512
   ·rw [if_pos c4] at H
    have c4b0:=decide_eq_true c4
    clear c4
    (first | rw [c4b0] | (simp only [i64_w,i32_w];rw [c4b0]) | rw [c4b9] | skip)
    have H':=Aside0.mk H
    clear H
    go_wp2
    go_meet
    case rel => exact ⟨_,(decide ((a0.size:Int) ≤ 20)),q92_,H',⟨by have:=HK1.out;first | omega | exact Nat.le_refl _⟩,⟨q85_⟩,⟨q64_⟩⟩
   rw [if_neg c4] at H
   have c4b0:=decide_eq_false c4
   clear c4
   (first | rw [c4b0] | (simp only [i64_w,i32_w];rw [c4b0]) | rw [c4b9] | skip)
   have H':=Aside0.mk H
   clear H
   go_wp2
   go_meet
   case rel => exact ⟨_,(false),q92_,H',⟨by have:=HK1.out;first | omega | exact Nat.le_refl _⟩,⟨q85_⟩,⟨q64_⟩⟩
  clear HC3
  try clear p2 p2
  try clear c3
  try clear c4
  try clear c4b0
  obtain ⟨kq,x14_2,rfl,HA,HJ2,BK594,HB⟩:=hcut
  cases kq with
  | zero => exact absurd HA.out (by simp [spec_ReadInsText.j1])
  | succ kj2 =>
   have H:=HA.out
   clear HA
   simp only [spec_ReadInsText.j1] at H
   by_cases c5:x14_2 = true
   ·subst c5
    rewrite [if_pos rfl] at H
    have HC6:=Aside0.mk H
    clear H
    go_upto_region 5 with (first | ((with_reducible refine gate_dst (N:=5) rfl ?_);(try (refine gate_guard (by rfl) ?_;dsimp only));refine box_event ?hg (N:=5) ?hd (cs:=#[.int .i64 0,.bool false,.int .i64 0]) (t:=30) ?hr ?_;(case hd => rfl);(case hg => rfl);(case hr => exact q139_);intro gb595 hg w7 hbox hb;have n0_:=Aside0.mk (blk_below (g:=gb594) (o:=.cells #[.int .i64 x595000_1,.bool x595001_1,.int .i64 x595002_1] 30 (0,0)) q85_ hb);have n1_:=Aside0.mk (below_step q64_ hb);have n2_:=Aside0.mk (hbox);have n3_:=Aside0.mk ((q46_:w.heap.size ≤ gb595));have n4_:=Aside0.mk ((q46_:w.heap.size ≤ gb595));have n5_:=Aside0.mk ((by rw [hg];exact Nat.ne_of_lt (blk_lt (g:=gb594) (o:=.cells #[.int .i64 x595000_1,.bool x595001_1,.int .i64 x595002_1] 30 (0,0)) q85_):gb594 ≠ gb595));have n6_:=Aside0.mk ((by rw [hg];exact Nat.ne_of_gt (blk_lt (g:=gb594) (o:=.cells #[.int .i64 x595000_1,.bool x595001_1,.int .i64 x595002_1] 30 (0,0)) q85_):gb595 ≠ gb594));clear BK594;clear HB;have BK594:=n0_;have HB:=n1_;have BK595:=n2_;have GW595:=n3_;have GE595:=n4_;have NB594_595:=n5_;have NB595_594:=n6_;clear n0_ n1_ n2_ n3_ n4_ n5_ n6_;clear hb hbox hg;have hnb8:=NB595_594.out;have hnc8:=NB594_595.out;have hcz9_0:w7.cell? ⟨gb595,0,none⟩ = some (.int .i64 0):=(blk_cell BK595.out 0).trans rfl;have hcz9_1:w7.cell? ⟨gb595,1,none⟩ = some (.bool false):=(blk_cell BK595.out 1).trans rfl;have hcz9_2:w7.cell? ⟨gb595,2,none⟩ = some (.int .i64 0):=(blk_cell BK595.out 2).trans rfl;have hfz9_0:=blk_frozen BK595.out 0;have hfz9_1:=blk_frozen BK595.out 1;have hfz9_2:=blk_frozen BK595.out 2))
    (try simp only [Act.put,List.setIfInBounds_toArray,List.set_cons_zero,List.set_cons_succ])
    go_cut [30] (fun v30 wc => ∃ (kq:Nat) (x30_5:Bool),v30 = .bool x30_5 ∧ Aside0 (spec_ReadInsText.j2 kq a0 x4_1 x30_5 (Int.tmod x4_1 256) (decide (x4_1 ≥ 256)) 0 = some (r1,r2,r3,r4)) ∧ Aside0 (kq ≤ kj2) ∧ Aside0 (wc.heap[gb594]? = some (.cells #[.int .i64 x595000_1,.bool x595001_1,.int .i64 x595002_1] 30 (0,0))) ∧ Aside0 (wc.heap[gb595]? = some (.cells #[.int .i64 (Int.tmod x4_1 256),.bool (decide (x4_1 ≥ 256)),.int .i64 0] 30 (0,0))) ∧ Aside0 (Below w.heap.size w wc))
    case first =>
     have H:=HC6.out
     clear HC6
     by_cases c10:x4_1 ≥ 256
     ·rw [if_pos c10] at H
      have c10b0:decide (256 ≤ x4_1) = true:=decide_eq_true c10
      clear c10
      (first | rw [c10b0] | (simp only [i64_w,i32_w];rw [c10b0]) | rw [c10b9] | skip)
      have H':=Aside0.mk H
      clear H
      have hnb11:=NB595_594.out
      have hnc11:=NB594_595.out
      have hcz12_0:w7.cell? ⟨gb595,0,none⟩ = some (.int .i64 0):=bz_ BK595 0
      have hcz12_1:w7.cell? ⟨gb595,1,none⟩ = some (.bool false):=bz_ BK595 1
      have hcz12_2:w7.cell? ⟨gb595,2,none⟩ = some (.int .i64 0):=bz_ BK595 2
      have hfz12_0:=blk_frozen BK595.out 0
      have hfz12_1:=blk_frozen BK595.out 1
      have hfz12_2:=blk_frozen BK595.out 2
      go_wp2
      go_meet
      case rel => exact ⟨_,(false),q92_,H',⟨by have:=HK1.out;have:=HJ2.out;first | omega | exact Nat.le_refl _⟩,⟨q6_⟩,⟨q0_⟩,⟨q49_⟩⟩
     rw [if_neg c10] at H
     have c10b0:decide (256 ≤ x4_1) = false:=decide_eq_false c10
     clear c10
     (first | rw [c10b0] | (simp only [i64_w,i32_w];rw [c10b0]) | rw [c10b9] | skip)
     replace H:=Option.bind_eq_some_iff.mp H
     obtain ⟨t596,A130,H⟩:=H
     have A13:=Aside0.mk A130
     clear A130
     have H':=Aside0.mk H
     clear H
     have hnb14:=NB595_594.out
     have hnc14:=NB594_595.out
     have hcz15_0:w7.cell? ⟨gb595,0,none⟩ = some (.int .i64 0):=bz_ BK595 0
     have hcz15_1:w7.cell? ⟨gb595,1,none⟩ = some (.bool false):=bz_ BK595 1
     have hcz15_2:w7.cell? ⟨gb595,2,none⟩ = some (.int .i64 0):=bz_ BK595 2
     have hfz15_0:=blk_frozen BK595.out 0
     have hfz15_1:=blk_frozen BK595.out 1
     have hfz15_2:=blk_frozen BK595.out 2
     go_wp2_with (first | (go_at_call 52;(with_reducible refine (spec_l3Length.calls kj2 (Int.tmod x4_1 256) false t596 _ A13.out).mono ?_);rintro e w16 ⟨rfl,hb⟩;have n0_:=Aside0.mk (blk_below (g:=gb594) (o:=.cells #[.int .i64 x595000_1,.bool x595001_1,.int .i64 x595002_1] 30 (0,0)) q6_ hb);have n1_:=Aside0.mk (blk_below (g:=gb595) (o:=.cells #[.int .i64 (Int.tmod x4_1 256),.bool (decide (x4_1 ≥ 256)),.int .i64 0] 30 (0,0)) q0_ hb);have n2_:=Aside0.mk (below_step q49_ hb);clear BK594;clear BK595;clear HB;have BK594:=n0_;have BK595:=n1_;have HB:=n2_;clear n0_ n1_ n2_;(try clear hb)))
     go_meet
     case rel => exact ⟨_,((t596 == 0)),q92_,H',⟨by have:=HK1.out;have:=HJ2.out;first | omega | exact Nat.le_refl _⟩,⟨q85_⟩,⟨q86_⟩,⟨q49_⟩⟩
    clear HC6
    try clear c1
    try clear p2 p2
    try clear c3
    try clear c4
    try clear c4b0
    try clear c5
    try clear p6
    try clear c8
    try clear c10
    try clear c10b0
    try clear c11
    try clear c14
    try clear hcz12_0 hcz12_1 hcz12_2
    try clear hcz15_0 hcz15_1 hcz15_2
    try clear hcz9_0 hcz9_1 hcz9_2
    try clear hfz12_0 hfz12_1 hfz12_2
    try clear hfz15_0 hfz15_1 hfz15_2
    try clear hfz9_0 hfz9_1 hfz9_2
    obtain ⟨kq,x30_5,rfl,HA,HJ5,BK594,BK595,HB⟩:=hcut
    cases kq with
    | zero => exact absurd HA.out (by simp [spec_ReadInsText.j2])
    | succ kj5 =>
     have H:=HA.out
     clear HA
     simp only [spec_ReadInsText.j2] at H
     by_cases c17:x30_5 = true
     ·subst c17
      rewrite [if_pos rfl] at H
      have H':=Aside0.mk H
      clear H
      go_wp2
      go_roundg kj5
      case measure => have:=HK1.out;have:=HJ2.out;have:=HJ5.out;omega
      case rel => exact ⟨(wrap64 (x4_1 + 1)),(x595000_1),(x595001_1),(x595002_1),q92_,H',⟨by have:=HK1.out;have:=HJ2.out;have:=HJ5.out;omega⟩,⟨q85_⟩,⟨q49_⟩⟩
     replace c17:=Bool.eq_false_iff.mpr c17
     subst c17
     rewrite [if_neg (show ¬ (false = true) by decide)] at H
     replace H:=Option.bind_eq_some_iff.mp H
     obtain ⟨t597,A180,H⟩:=H
     have A18:=Aside0.mk A180
     clear A180
     replace H:=Option.bind_eq_some_iff.mp H
     obtain ⟨⟨t598,t599⟩,A190,H⟩:=H
     try dsimp -simprocs -eta only at H
     have A19:=Aside0.mk A190
     clear A190
     by_cases c20:t599 = true
     ·subst c20
      rewrite [if_pos rfl] at H
      have HC21:=Aside0.mk H
      clear H
      have hnb22:=NB595_594.out
      have hnc22:=NB594_595.out
      have hcz23_0:wc.cell? ⟨gb595,0,none⟩ = some (.int .i64 (Int.tmod x4_1 256)):=bz_ BK595 0
      have hcz23_1:wc.cell? ⟨gb595,1,none⟩ = some (.bool (decide (x4_1 ≥ 256))):=bz_ BK595 1
      have hcz23_2:wc.cell? ⟨gb595,2,none⟩ = some (.int .i64 0):=bz_ BK595 2
      have hfz23_0:=blk_frozen BK595.out 0
      have hfz23_1:=blk_frozen BK595.out 1
      have hfz23_2:=blk_frozen BK595.out 2
      go_upto_if 44 with (first | ((with_reducible refine gate_callee (f:=60) rfl ?_);refine goesL_ (some 37) rfl rfl Tryz.func60 (by kernel_rfl) rfl #[.int .i64 (Int.tmod x4_1 256),.bool (decide (x4_1 ≥ 256))] rfl q71_ ?_;(with_reducible refine (spec_l3Template.calls kj5 (Int.tmod x4_1 256) (decide (x4_1 ≥ 256)) t597 _ A18.out).mono ?_);rintro e w24 ⟨rfl,hb⟩;refine ⟨_,rfl,?_⟩;have n0_:=Aside0.mk (blk_below (g:=gb594) (o:=.cells #[.int .i64 x595000_1,.bool x595001_1,.int .i64 x595002_1] 30 (0,0)) q85_ hb);have n1_:=Aside0.mk (blk_below (g:=gb595) (o:=.cells #[.int .i64 (Int.tmod x4_1 256),.bool (decide (x4_1 ≥ 256)),.int .i64 0] 30 (0,0)) q86_ hb);have n2_:=Aside0.mk (below_step q49_ hb);clear BK594;clear BK595;clear HB;have BK594:=n0_;have BK595:=n1_;have HB:=n2_;clear n0_ n1_ n2_;(try clear hb)) | ((with_reducible refine gate_callee (f:=74) rfl ?_);refine goesL_ (some 38) rfl rfl Tryz.func74 (by kernel_rfl) rfl #[.string a0,.string t597] rfl q71_ ?_;(with_reducible refine (spec_l3Fits.calls kj5 a0 t597 t598 true _ A19.out).mono ?_);rintro e w25 ⟨rfl,hb⟩;refine ⟨_,rfl,?_⟩;have n0_:=Aside0.mk (blk_below (g:=gb594) (o:=.cells #[.int .i64 x595000_1,.bool x595001_1,.int .i64 x595002_1] 30 (0,0)) q85_ hb);have n1_:=Aside0.mk (blk_below (g:=gb595) (o:=.cells #[.int .i64 (Int.tmod x4_1 256),.bool (decide (x4_1 ≥ 256)),.int .i64 0] 30 (0,0)) q86_ hb);have n2_:=Aside0.mk (below_step q49_ hb);clear BK594;clear BK595;clear HB;have BK594:=n0_;have BK595:=n1_;have HB:=n2_;clear n0_ n1_ n2_;(try clear hb)))
      (try simp only [Act.put,List.setIfInBounds_toArray,List.set_cons_zero,List.set_cons_succ])
      go_cut [] (fun wc => ∃ (kq:Nat) (x596002_20:Int),Aside0 (spec_ReadInsText.j3 kq a0 x4_1 (Int.tmod x4_1 256) (decide (x4_1 ≥ 256)) x596002_20 = some (r1,r2,r3,r4)) ∧ Aside0 (kq ≤ kj5) ∧ Aside0 (wc.heap[gb594]? = some (.cells #[.int .i64 x595000_1,.bool x595001_1,.int .i64 x595002_1] 30 (0,0))) ∧ Aside0 (wc.heap[gb595]? = some (.cells #[.int .i64 (Int.tmod x4_1 256),.bool (decide (x4_1 ≥ 256)),.int .i64 x596002_20] 30 (0,0))) ∧ Aside0 (Below w.heap.size w wc))
      case first =>
       have H:=HC21.out
       clear HC21
       by_cases c26:t598.toList = ([]:List UInt8)
       ·rw [if_pos c26] at H
        have c26b0:(t598.toList == ([]:List UInt8)) = true:=beq_iff_eq.mpr c26
        have c26b1:(t598.toList != ([]:List UInt8)) = false:=bne_eq_false_iff_eq.mpr c26
        have c26b9:t598.toList.isEmpty = true:=(isEmpty_beq _).trans c26b0
        clear c26
        (first | rw [c26b0] | (simp only [i64_w,i32_w];rw [c26b0]) | rw [c26b9] | skip)
        have H':=Aside0.mk H
        clear H
        go_wp2
        go_meet
        case rel => exact ⟨_,(0),H',⟨by have:=HK1.out;have:=HJ2.out;have:=HJ5.out;first | omega | exact Nat.le_refl _⟩,⟨q85_⟩,⟨q86_⟩,⟨q49_⟩⟩
       rw [if_neg c26] at H
       have c26b0:(t598.toList == ([]:List UInt8)) = false:=beq_eq_false_iff_ne.mpr c26
       have c26b1:(t598.toList != ([]:List UInt8)) = true:=bne_iff_ne.mpr c26
       have c26b9:t598.toList.isEmpty = false:=(isEmpty_beq _).trans c26b0
       (first | rw [c26b0] | (simp only [i64_w,i32_w];rw [c26b0]) | rw [c26b9] | skip)
       replace H:=Option.bind_eq_some_iff.mp H
       obtain ⟨t600,A270,H⟩:=H
       have A27:=Aside0.mk A270
       clear A270
       have H':=Aside0.mk H
       clear H
       go_wp2_with (first | ((with_reducible refine gate_callee (f:=75) rfl ?_);refine goesL_ (some 46) rfl rfl Tryz.func75 (by kernel_rfl) rfl #[.string t598] rfl q71_ ?_;(with_reducible refine (spec_l3Imm.calls kj5 t598 t600 _ A27.out).mono ?_);rintro e w' ⟨rfl,⟨nd,rfl⟩⟩;refine ⟨_,rfl,?_⟩;(try (rw [drewN_self w25];generalize hq_:World.drewN w25 _ = w25;have n0_:Aside0 (w25.heap[gb594]? = some (.cells #[.int .i64 x595000_1,.bool x595001_1,.int .i64 x595002_1] 30 (0,0))):=⟨by rw [← hq_];exact q85_⟩;have n1_:Aside0 (w25.heap[gb595]? = some (.cells #[.int .i64 (Int.tmod x4_1 256),.bool (decide (x4_1 ≥ 256)),.int .i64 0] 30 (0,0))):=⟨by rw [← hq_];exact q86_⟩;have n2_:Aside0 (Below w.heap.size w w25):=⟨by rw [← hq_];exact q49_⟩;clear BK594 BK595 HB hq_;have BK594:=n0_;have BK595:=n1_;have HB:=n2_;clear n0_ n1_ n2_));have hnb28:=NB595_594.out;have hnc28:=NB594_595.out;have hcz29_0:w25.cell? ⟨gb595,0,none⟩ = some (.int .i64 (Int.tmod x4_1 256)):=(blk_cell BK595.out 0).trans rfl;have hcz29_1:w25.cell? ⟨gb595,1,none⟩ = some (.bool (decide (x4_1 ≥ 256))):=(blk_cell BK595.out 1).trans rfl;have hcz29_2:w25.cell? ⟨gb595,2,none⟩ = some (.int .i64 0):=(blk_cell BK595.out 2).trans rfl;have hfz29_0:=blk_frozen BK595.out 0;have hfz29_1:=blk_frozen BK595.out 1;have hfz29_2:=blk_frozen BK595.out 2))
       go_meet
       case rel => exact ⟨_,(t600),H',⟨by have:=HK1.out;have:=HJ2.out;have:=HJ5.out;first | omega | exact Nat.le_refl _⟩,⟨by (with_reducible repeat (first | refine blk_drewN ?_ _ | refine blk_drew ?_ | refine blk_alloc ?_ _));refine blk_far ?_ NB594_595.out _;(with_reducible repeat (first | refine blk_drewN ?_ _ | refine blk_drew ?_ | refine blk_alloc ?_ _));exact BK594.out⟩,⟨by (with_reducible repeat (first | refine blk_drewN ?_ _ | refine blk_drew ?_ | refine blk_alloc ?_ _));refine blk_put (cs:=#[.int .i64 (Int.tmod x4_1 256),.bool (decide (x4_1 ≥ 256)),.int .i64 0]) ?_ 2 _ rfl;(with_reducible repeat (first | refine blk_drewN ?_ _ | refine blk_drew ?_ | refine blk_alloc ?_ _));exact BK595.out⟩,⟨q49_⟩⟩
      clear HC21
      try clear c1
      try clear c2
      try clear p2 p2
      try clear c3
      try clear c4
      try clear c4b0
      try clear c5
      try clear c6
      try clear p6 p6
      try clear c7
      try clear c8
      try clear c10
      try clear c10b0
      try clear c11
      try clear c14
      try clear c17
      try clear c20
      try clear c22
      try clear c26
      try clear c26b0
      try clear c26b1
      try clear c28
      try clear hcz12_0 hcz12_1 hcz12_2
      try clear hcz15_0 hcz15_1 hcz15_2
      try clear hcz23_0 hcz23_1 hcz23_2
      try clear hcz29_0 hcz29_1 hcz29_2
      try clear hcz9_0 hcz9_1 hcz9_2
      try clear hfz12_0 hfz12_1 hfz12_2
      try clear hfz15_0 hfz15_1 hfz15_2
      try clear hfz23_0 hfz23_1 hfz23_2
      try clear hfz29_0 hfz29_1 hfz29_2
      try clear hfz9_0 hfz9_1 hfz9_2
      obtain ⟨kq,x596002_20,HA,HJ20,BK594,BK595,HB⟩:=hcut
      cases kq with
      | zero => exact absurd HA.out (by simp [spec_ReadInsText.j3])
      | succ kj20 =>
       have H:=HA.out
       clear HA
       simp only [spec_ReadInsText.j3] at H
       replace H:=Option.bind_eq_some_iff.mp H
       obtain ⟨t601,A300,H⟩:=H
       have A30:=Aside0.mk A300
       clear A300
       by_cases c31:t601.toList = a0.toList
       ·rw [if_pos c31] at H
        have c31b0:(t601.toList == a0.toList) = true:=beq_iff_eq.mpr c31
        have c31b1:(t601.toList != a0.toList) = false:=bne_eq_false_iff_eq.mpr c31
        clear c31
        simp only [Option.some.injEq,Prod.mk.injEq] at H
        obtain ⟨rfl,rfl,rfl,rfl⟩:=H
        have hnb32:=NB595_594.out
        have hnc32:=NB594_595.out
        have hcz33_0:wc.cell? ⟨gb595,0,none⟩ = some (.int .i64 (Int.tmod x4_1 256)):=bz_ BK595 0
        have hcz33_1:wc.cell? ⟨gb595,1,none⟩ = some (.bool (decide (x4_1 ≥ 256))):=bz_ BK595 1
        have hcz33_2:wc.cell? ⟨gb595,2,none⟩ = some (.int .i64 x596002_20):=bz_ BK595 2
        have hfz33_0:=blk_frozen BK595.out 0
        have hfz33_1:=blk_frozen BK595.out 1
        have hfz33_2:=blk_frozen BK595.out 2
        go_wp2_with (first | ((with_reducible refine gate_callee (f:=28) rfl ?_);refine goesL_ (some 49) rfl rfl Tryz.func28 (by kernel_rfl) rfl #[.agg #[.int .i64 (Int.tmod x4_1 256),.bool (decide (x4_1 ≥ 256)),.int .i64 x596002_20]] rfl q71_ ?_;(with_reducible refine (spec_InsText.calls kj20 (Int.tmod x4_1 256) (decide (x4_1 ≥ 256)) x596002_20 t601 _ A30.out).mono ?_);rintro e w34 ⟨rfl,hb⟩;refine ⟨_,rfl,?_⟩;have n0_:=Aside0.mk (blk_below (g:=gb594) (o:=.cells #[.int .i64 x595000_1,.bool x595001_1,.int .i64 x595002_1] 30 (0,0)) q85_ hb);have n1_:=Aside0.mk (blk_below (g:=gb595) (o:=.cells #[.int .i64 (Int.tmod x4_1 256),.bool (decide (x4_1 ≥ 256)),.int .i64 x596002_20] 30 (0,0)) q86_ hb);have n2_:=Aside0.mk (below_step q49_ hb);clear BK594;clear BK595;clear HB;have BK594:=n0_;have BK595:=n1_;have HB:=n2_;clear n0_ n1_ n2_;(try clear hb);have hcz35_0:w34.cell? ⟨gb595,0,none⟩ = some (.int .i64 (Int.tmod x4_1 256)):=(blk_cell BK595.out 0).trans rfl;have hcz35_1:w34.cell? ⟨gb595,1,none⟩ = some (.bool (decide (x4_1 ≥ 256))):=(blk_cell BK595.out 1).trans rfl;have hcz35_2:w34.cell? ⟨gb595,2,none⟩ = some (.int .i64 x596002_20):=(blk_cell BK595.out 2).trans rfl;have hfz35_0:=blk_frozen BK595.out 0;have hfz35_1:=blk_frozen BK595.out 1;have hfz35_2:=blk_frozen BK595.out 2;have hcz36_0:w34.cell? ⟨gb594,0,none⟩ = some (.int .i64 x595000_1):=(blk_cell BK594.out 0).trans rfl;have hcz36_1:w34.cell? ⟨gb594,1,none⟩ = some (.bool x595001_1):=(blk_cell BK594.out 1).trans rfl;have hcz36_2:w34.cell? ⟨gb594,2,none⟩ = some (.int .i64 x595002_1):=(blk_cell BK594.out 2).trans rfl;have hfz36_0:=blk_frozen BK594.out 0;have hfz36_1:=blk_frozen BK594.out 1;have hfz36_2:=blk_frozen BK594.out 2))
        refine bodyPost_ret (results_ct rfl _ _ gb594 30 #[.int .i64 (Int.tmod x4_1 256),.bool (decide (x4_1 ≥ 256)),.int .i64 x596002_20] (0,0) _ rfl (by (with_reducible repeat (first | refine blk_drewN ?_ _ | refine blk_drew ?_ | refine blk_alloc ?_ _));refine blk_put (cs:=#[.int .i64 (Int.tmod x4_1 256),.bool (decide (x4_1 ≥ 256)),.int .i64 x595002_1]) ?_ 2 _ rfl;(with_reducible repeat (first | refine blk_drewN ?_ _ | refine blk_drew ?_ | refine blk_alloc ?_ _));refine blk_put (cs:=#[.int .i64 (Int.tmod x4_1 256),.bool x595001_1,.int .i64 x595002_1]) ?_ 1 _ rfl;(with_reducible repeat (first | refine blk_drewN ?_ _ | refine blk_drew ?_ | refine blk_alloc ?_ _));refine blk_put (cs:=#[.int .i64 x595000_1,.bool x595001_1,.int .i64 x595002_1]) ?_ 0 _ rfl;(with_reducible repeat (first | refine blk_drewN ?_ _ | refine blk_drew ?_ | refine blk_alloc ?_ _));exact BK594.out) Tryz.underlying30 rfl (by kernel_rfl)) rfl ?_
        exact ⟨q74_,q49_⟩
       rw [if_neg c31] at H
       have c31b0:(t601.toList == a0.toList) = false:=beq_eq_false_iff_ne.mpr c31
       have c31b1:(t601.toList != a0.toList) = true:=bne_iff_ne.mpr c31
       have H':=Aside0.mk H
       clear H
       have hnb37:=NB595_594.out
       have hnc37:=NB594_595.out
       have hcz38_0:wc.cell? ⟨gb595,0,none⟩ = some (.int .i64 (Int.tmod x4_1 256)):=bz_ BK595 0
       have hcz38_1:wc.cell? ⟨gb595,1,none⟩ = some (.bool (decide (x4_1 ≥ 256))):=bz_ BK595 1
       have hcz38_2:wc.cell? ⟨gb595,2,none⟩ = some (.int .i64 x596002_20):=bz_ BK595 2
       have hfz38_0:=blk_frozen BK595.out 0
       have hfz38_1:=blk_frozen BK595.out 1
       have hfz38_2:=blk_frozen BK595.out 2
       go_wp2_with (first | ((with_reducible refine gate_callee (f:=28) rfl ?_);refine goesL_ (some 49) rfl rfl Tryz.func28 (by kernel_rfl) rfl #[.agg #[.int .i64 (Int.tmod x4_1 256),.bool (decide (x4_1 ≥ 256)),.int .i64 x596002_20]] rfl q71_ ?_;(with_reducible refine (spec_InsText.calls kj20 (Int.tmod x4_1 256) (decide (x4_1 ≥ 256)) x596002_20 t601 _ A30.out).mono ?_);rintro e w39 ⟨rfl,hb⟩;refine ⟨_,rfl,?_⟩;have n0_:=Aside0.mk (blk_below (g:=gb594) (o:=.cells #[.int .i64 x595000_1,.bool x595001_1,.int .i64 x595002_1] 30 (0,0)) q85_ hb);have n1_:=Aside0.mk (blk_below (g:=gb595) (o:=.cells #[.int .i64 (Int.tmod x4_1 256),.bool (decide (x4_1 ≥ 256)),.int .i64 x596002_20] 30 (0,0)) q86_ hb);have n2_:=Aside0.mk (below_step q49_ hb);clear BK594;clear BK595;clear HB;have BK594:=n0_;have BK595:=n1_;have HB:=n2_;clear n0_ n1_ n2_;(try clear hb)))
       go_roundg kj20
       case measure => have:=HK1.out;have:=HJ2.out;have:=HJ5.out;have:=HJ20.out;omega
       case rel => exact ⟨(wrap64 (x4_1 + 1)),(x595000_1),(x595001_1),(x595002_1),q92_,H',⟨by have:=HK1.out;have:=HJ2.out;have:=HJ5.out;have:=HJ20.out;omega⟩,⟨q85_⟩,⟨q49_⟩⟩
     replace c20:=Bool.eq_false_iff.mpr c20
     subst c20
     rewrite [if_neg (show ¬ (false = true) by decide)] at H
     have H':=Aside0.mk H
     clear H
     have hnb40:=NB595_594.out
     have hnc40:=NB594_595.out
     have hcz41_0:wc.cell? ⟨gb595,0,none⟩ = some (.int .i64 (Int.tmod x4_1 256)):=bz_ BK595 0
     have hcz41_1:wc.cell? ⟨gb595,1,none⟩ = some (.bool (decide (x4_1 ≥ 256))):=bz_ BK595 1
     have hcz41_2:wc.cell? ⟨gb595,2,none⟩ = some (.int .i64 0):=bz_ BK595 2
     have hfz41_0:=blk_frozen BK595.out 0
     have hfz41_1:=blk_frozen BK595.out 1
     have hfz41_2:=blk_frozen BK595.out 2
     go_wp2_with (first | ((with_reducible refine gate_callee (f:=60) rfl ?_);refine goesL_ (some 37) rfl rfl Tryz.func60 (by kernel_rfl) rfl #[.int .i64 (Int.tmod x4_1 256),.bool (decide (x4_1 ≥ 256))] rfl q71_ ?_;(with_reducible refine (spec_l3Template.calls kj5 (Int.tmod x4_1 256) (decide (x4_1 ≥ 256)) t597 _ A18.out).mono ?_);rintro e w42 ⟨rfl,hb⟩;refine ⟨_,rfl,?_⟩;have n0_:=Aside0.mk (blk_below (g:=gb594) (o:=.cells #[.int .i64 x595000_1,.bool x595001_1,.int .i64 x595002_1] 30 (0,0)) q85_ hb);have n1_:=Aside0.mk (blk_below (g:=gb595) (o:=.cells #[.int .i64 (Int.tmod x4_1 256),.bool (decide (x4_1 ≥ 256)),.int .i64 0] 30 (0,0)) q86_ hb);have n2_:=Aside0.mk (below_step q49_ hb);clear BK594;clear BK595;clear HB;have BK594:=n0_;have BK595:=n1_;have HB:=n2_;clear n0_ n1_ n2_;(try clear hb)) | ((with_reducible refine gate_callee (f:=74) rfl ?_);refine goesL_ (some 38) rfl rfl Tryz.func74 (by kernel_rfl) rfl #[.string a0,.string t597] rfl q71_ ?_;(with_reducible refine (spec_l3Fits.calls kj5 a0 t597 t598 false _ A19.out).mono ?_);rintro e w43 ⟨rfl,hb⟩;refine ⟨_,rfl,?_⟩;have n0_:=Aside0.mk (blk_below (g:=gb594) (o:=.cells #[.int .i64 x595000_1,.bool x595001_1,.int .i64 x595002_1] 30 (0,0)) q85_ hb);have n1_:=Aside0.mk (blk_below (g:=gb595) (o:=.cells #[.int .i64 (Int.tmod x4_1 256),.bool (decide (x4_1 ≥ 256)),.int .i64 0] 30 (0,0)) q86_ hb);have n2_:=Aside0.mk (below_step q49_ hb);clear BK594;clear BK595;clear HB;have BK594:=n0_;have BK595:=n1_;have HB:=n2_;clear n0_ n1_ n2_;(try clear hb)))
     go_roundg kj5
     case measure => have:=HK1.out;have:=HJ2.out;have:=HJ5.out;omega
     case rel => exact ⟨(wrap64 (x4_1 + 1)),(x595000_1),(x595001_1),(x595002_1),q92_,H',⟨by have:=HK1.out;have:=HJ2.out;have:=HJ5.out;omega⟩,⟨q85_⟩,⟨q49_⟩⟩
   replace c5:=Bool.eq_false_iff.mpr c5
   subst c5
   rewrite [if_neg (show ¬ (false = true) by decide)] at H
   simp only [Option.some.injEq,Prod.mk.injEq] at H
   obtain ⟨rfl,rfl,rfl,rfl⟩:=H
   have hcz44_0:wc.cell? ⟨gb594,0,none⟩ = some (.int .i64 x595000_1):=bz_ BK594 0
   have hcz44_1:wc.cell? ⟨gb594,1,none⟩ = some (.bool x595001_1):=bz_ BK594 1
   have hcz44_2:wc.cell? ⟨gb594,2,none⟩ = some (.int .i64 x595002_1):=bz_ BK594 2
   have hfz44_0:=blk_frozen BK594.out 0
   have hfz44_1:=blk_frozen BK594.out 1
   have hfz44_2:=blk_frozen BK594.out 2
   go_wp2
   refine bodyPost_ret (results_ct rfl _ _ gb594 30 #[.int .i64 0,.bool false,.int .i64 0] (0,0) _ rfl (by (with_reducible repeat (first | refine blk_drewN ?_ _ | refine blk_drew ?_ | refine blk_alloc ?_ _));refine blk_put (cs:=#[.int .i64 0,.bool false,.int .i64 x595002_1]) ?_ 2 _ rfl;(with_reducible repeat (first | refine blk_drewN ?_ _ | refine blk_drew ?_ | refine blk_alloc ?_ _));refine blk_put (cs:=#[.int .i64 0,.bool x595001_1,.int .i64 x595002_1]) ?_ 1 _ rfl;(with_reducible repeat (first | refine blk_drewN ?_ _ | refine blk_drew ?_ | refine blk_alloc ?_ _));refine blk_put (cs:=#[.int .i64 x595000_1,.bool x595001_1,.int .i64 x595002_1]) ?_ 0 _ rfl;(with_reducible repeat (first | refine blk_drewN ?_ _ | refine blk_drew ?_ | refine blk_alloc ?_ _));exact BK594.out) Tryz.underlying30 rfl (by kernel_rfl)) rfl ?_
   exact ⟨q74_,q64_⟩
end Go.Proofs.YtodlnnoekccmmaaGreatDoor.QFnInsTexts
