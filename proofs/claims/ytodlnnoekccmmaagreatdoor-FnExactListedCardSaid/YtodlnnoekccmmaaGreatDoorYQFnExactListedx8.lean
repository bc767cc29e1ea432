/- The machine's side of a law,written by a program of this session for this claim. -/
import Derived.Test.YtodlnnoekccmmaaGreatDoorYQq
import Derived.Test.YtodlnnoekccmmaaGreatDoorYQFnExactListedx0
import Derived.Test.YtodlnnoekccmmaaGreatDoorYQFnExactListedx1
import Derived.Test.YtodlnnoekccmmaaGreatDoorYQFnExactListedx3
import Derived.Test.YtodlnnoekccmmaaGreatDoorYQFnExactListedx4
import Derived.Test.YtodlnnoekccmmaaGreatDoorYQFnExactListedx5
import Derived.Test.YtodlnnoekccmmaaGreatDoorYQFnExactListedx6
import Derived.Test.YtodlnnoekccmmaaGreatDoorYQFnExactListedx7
namespace Go.Proofs.YtodlnnoekccmmaaGreatDoor.QFnExactListed
open Go.Proofs.YtodlnnoekccmmaaGreatDoor.Qq
open Go.RowKit Go.Proofs.YtodlnnoekccmmaaGreatDoor.LibX Go.Proofs.YtodlnnoekccmmaaGreatDoor.LibE Go.Proofs.YtodlnnoekccmmaaGreatDoorW.PrintWords Go.Proofs.YtodlnnoekccmmaaGreatDoorW.PrintLast Go.Proofs.YtodlnnoekccmmaaGreatDoorW.PrintMore
attribute [local go_sem] max2_int min2_int max_two min_two max_three min_three max_four min_four   -- for this text's walks alone
set_option maxHeartbeats 8000000
set_option maxRecDepth 100000
set_option linter.unusedVariables false
set_option linter.unusedSimpArgs false
def spec_l13Line.j0:Nat → Int → Int → ByteArray → Int → Bool → Int → Bool → Int → Option (ByteArray)
 | 0,_,_,_,_,_,_,_,_ => none
 | k + 1,x1,x2,x7,x8,x27,x285000,x285001,x285002 => if x27 = true then ((spec_SignedOf.f x285002).bind fun t288 => ((spec_l4Word.f (wrap64 ((wrap64 (x1 + x2)) + t288))).bind fun t289 => (if t289 = true then (if 0 ≤ x8 then (if x8 ≤ (x7.size:Int) then ((spec_HexOf.f k (wrap64 ((wrap64 (x1 + x2)) + t288)) 4).bind fun t290 => (if (x7.extract 0 (x8:Int).toNat).size + t290.size ≤ 9223372036854775807 then (if 0 ≤ (wrap64 (x8 + 2)) then (if (wrap64 (x8 + 2)) ≤ (x7.size:Int) then (if ((x7.extract 0 (x8:Int).toNat) ++ t290).size + (x7.extract ((wrap64 (x8 + 2)):Int).toNat x7.size).size ≤ 9223372036854775807 then (some (((x7.extract 0 (x8:Int).toNat) ++ t290) ++ (x7.extract ((wrap64 (x8 + 2)):Int).toNat x7.size))) else (none)) else (none)) else (none)) else (none))) else (none)) else (none)) else (some (⟨#[]⟩:ByteArray))))) else ((spec_InsText.f k x285000 x285001 x285002).bind fun t291 => (some t291))
def spec_l13Line.f (k:Nat) (a0_0:Int) (a0_1:Bool) (a0_2:Int) (a1:Int) (a2:Int):Option (ByteArray):=(spec_l3Template.f k a0_0 a0_1).bind fun t285 => ((spec_l3Hole.f k t285).bind fun bt286 => (if bt286.2.toList = ([101,56]:List UInt8) then (spec_l13Line.j0 k a1 a2 t285 bt286.1 (decide (a0_0 < 64)) a0_0 a0_1 a0_2) else (spec_l13Line.j0 k a1 a2 t285 bt286.1 false a0_0 a0_1 a0_2)))
theorem spec_l13Line.mono_l:∀ k,(∀ y0 y1 y2 y3 y4 y5 y6 y7,LeO (spec_l13Line.j0 k y0 y1 y2 y3 y4 y5 y6 y7) (spec_l13Line.j0 (k + 1) y0 y1 y2 y3 y4 y5 y6 y7))
 | 0 => fun _ _ _ _ _ _ _ _ r h => by simp [spec_l13Line.j0] at h
 | k + 1 => by
  have ih0:=spec_l13Line.mono_l k
  intro y0 y1 y2 y3 y4 y5 y6 y7
  unfold spec_l13Line.j0
  repeat' first
  | (with_reducible first | exact ih0 _ _ _ _ _ _ _ _ | exact spec_HexOf.mono _ _ _ | exact spec_InsText.mono _ _ _ _ | exact spec_l3Hole.mono _ _ | exact spec_l3Template.mono _ _ _ | exact LeO.refl _ | exact LeO.none _ | refine LeO.ite ?_ ?_ | refine LeO.bind ?_ (fun _ => ?_))
  | exact ih0 _ _ _ _ _ _ _ _
  | exact spec_HexOf.mono _ _ _
  | exact spec_InsText.mono _ _ _ _
  | exact spec_l3Hole.mono _ _
  | exact spec_l3Template.mono _ _ _
  | exact LeO.none _
  | refine LeO.ite ?_ ?_
  | refine LeO.bind ?_ (fun _ => ?_)
theorem spec_l13Line.mono:∀ a0 a1 a2 a3 a4 k,LeO (spec_l13Line.f k a0 a1 a2 a3 a4) (spec_l13Line.f (k + 1) a0 a1 a2 a3 a4):=by
 intro a0 a1 a2 a3 a4 k
 have ih0:=spec_l13Line.mono_l k
 unfold spec_l13Line.f
 repeat' first
   | (with_reducible first | exact ih0 _ _ _ _ _ _ _ _ | exact spec_HexOf.mono _ _ _ | exact spec_InsText.mono _ _ _ _ | exact spec_l3Hole.mono _ _ | exact spec_l3Template.mono _ _ _ | exact LeO.refl _ | exact LeO.none _ | refine LeO.ite ?_ ?_ | refine LeO.bind ?_ (fun _ => ?_))
   | exact ih0 _ _ _ _ _ _ _ _
   | exact spec_HexOf.mono _ _ _
   | exact spec_InsText.mono _ _ _ _
   | exact spec_l3Hole.mono _ _
   | exact spec_l3Template.mono _ _ _
   | exact LeO.none _
   | refine LeO.ite ?_ ?_
   | refine LeO.bind ?_ (fun _ => ?_)
theorem spec_l13Line.calls (k:Nat) (a0_0:Int) (a0_1:Bool) (a0_2:Int) (a1:Int) (a2:Int) (r:ByteArray) (w:World) (h:spec_l13Line.f k a0_0 a0_1 a0_2 a1 a2 = some r) :
  Calls Tryz.prog 126 #[.agg #[.int .i64 a0_0,.bool a0_1,.int .i64 a0_2],.int .i64 a1,.int .i64 a2] w fun e w' => e = .returned (.string r) ∧ Below w.heap.size w w':=by
 have hu30:=Tryz.underlying30
 have HB:=Aside0.mk (Below.refl w.heap.size w)
 have H:((spec_l3Template.f k a0_0 a0_1).bind fun t285 => ((spec_l3Hole.f k t285).bind fun bt286 => (if bt286.2.toList = ([101,56]:List UInt8) then (spec_l13Line.j0 k a1 a2 t285 bt286.1 (decide (a0_0 < 64)) a0_0 a0_1 a0_2) else (spec_l13Line.j0 k a1 a2 t285 bt286.1 false a0_0 a0_1 a0_2)))) = some r:=h
 clear h
 replace H:=Option.bind_eq_some_iff.mp H
 obtain ⟨t285,A40,H⟩:=H
 have A4:=Aside0.mk A40
 clear A40
 replace H:=Option.bind_eq_some_iff.mp H
 obtain ⟨⟨t286,t287⟩,A50,H⟩:=H
 replace H:(if t287.toList = ([101,56]:List UInt8) then (spec_l13Line.j0 k a1 a2 t285 t286 (decide (a0_0 < 64)) a0_0 a0_1 a0_2) else (spec_l13Line.j0 k a1 a2 t285 t286 false a0_0 a0_1 a0_2)) = some r:=H
 have A5:=Aside0.mk A50
 clear A50
 have HC6:=Aside0.mk H
 clear H
 go_enter Tryz.func126,Tryz.ntmps126
 go_upto_region 3 with (first | ((with_reducible refine gate_dst (N:=3) rfl ?_);refine box_event ?hg (N:=3) ?hd (cs:=#[.int .i64 a0_0,.bool a0_1,.int .i64 a0_2]) (t:=30) ?hr ?_;(case hd => rfl);(case hg => rfl);(case hr => exact q114_);intro gb284 hg w7 hbox hb;have n0_:=Aside0.mk (below_step q50_ hb);have n1_:=Aside0.mk (hbox);have n2_:=Aside0.mk ((q28_:w.heap.size ≤ gb284));have n3_:=Aside0.mk ((q28_:w.heap.size ≤ gb284));clear HB;have HB:=n0_;have BK284:=n1_;have GW284:=n2_;have GE284:=n3_;clear n0_ n1_ n2_ n3_;clear hb hbox hg;have hcz8_0:w7.cell? ⟨gb284,0,none⟩ = some (.int .i64 a0_0):=(blk_cell BK284.out 0).trans rfl;have hcz8_1:w7.cell? ⟨gb284,1,none⟩ = some (.bool a0_1):=(blk_cell BK284.out 1).trans rfl;have hcz8_2:w7.cell? ⟨gb284,2,none⟩ = some (.int .i64 a0_2):=(blk_cell BK284.out 2).trans rfl;have hfz8_0:=blk_frozen BK284.out 0;have hfz8_1:=blk_frozen BK284.out 1;have hfz8_2:=blk_frozen BK284.out 2) | (go_at_call 60;(with_reducible refine (spec_l3Template.calls k a0_0 a0_1 t285 _ A4.out).mono ?_);rintro e w9 ⟨rfl,hb⟩;have n0_:=Aside0.mk (blk_below (g:=gb284) (o:=.cells #[.int .i64 a0_0,.bool a0_1,.int .i64 a0_2] 30 (0,0)) q58_ hb);have n1_:=Aside0.mk (below_step q32_ hb);clear BK284;clear HB;have BK284:=n0_;have HB:=n1_;clear n0_ n1_;(try clear hb)) | (go_at_call 59;(with_reducible refine (spec_l3Hole.calls k t285 t286 t287 _ A5.out).mono ?_);rintro e w10 ⟨rfl,hb⟩;have n0_:=Aside0.mk (blk_below (g:=gb284) (o:=.cells #[.int .i64 a0_0,.bool a0_1,.int .i64 a0_2] 30 (0,0)) q58_ hb);have n1_:=Aside0.mk (below_step q32_ hb);clear BK284;clear HB;have BK284:=n0_;have HB:=n1_;clear n0_ n1_;(try clear hb)))
 repeat (go_quiet (first | ((with_reducible refine gate_dst (N:=3) rfl ?_);refine box_event ?hg (N:=3) ?hd (cs:=#[.int .i64 a0_0,.bool a0_1,.int .i64 a0_2]) (t:=30) ?hr ?_;(case hd => rfl);(case hg => rfl);(case hr => exact q114_);intro gb284 hg w7 hbox hb;have n0_:=Aside0.mk (below_step q50_ hb);have n1_:=Aside0.mk (hbox);have n2_:=Aside0.mk ((q28_:w.heap.size ≤ gb284));have n3_:=Aside0.mk ((q28_:w.heap.size ≤ gb284));clear HB;have HB:=n0_;have BK284:=n1_;have GW284:=n2_;have GE284:=n3_;clear n0_ n1_ n2_ n3_;clear hb hbox hg;have hcz8_0:w7.cell? ⟨gb284,0,none⟩ = some (.int .i64 a0_0):=(blk_cell BK284.out 0).trans rfl;have hcz8_1:w7.cell? ⟨gb284,1,none⟩ = some (.bool a0_1):=(blk_cell BK284.out 1).trans rfl;have hcz8_2:w7.cell? ⟨gb284,2,none⟩ = some (.int .i64 a0_2):=(blk_cell BK284.out 2).trans rfl;have hfz8_0:=blk_frozen BK284.out 0;have hfz8_1:=blk_frozen BK284.out 1;have hfz8_2:=blk_frozen BK284.out 2) | (go_at_call 60;(with_reducible refine (spec_l3Template.calls k a0_0 a0_1 t285 _ A4.out).mono ?_);rintro e w9 ⟨rfl,hb⟩;have n0_:=Aside0.mk (blk_below (g:=gb284) (o:=.cells #[.int .i64 a0_0,.bool a0_1,.int .i64 a0_2] 30 (0,0)) q58_ hb);have n1_:=Aside0.mk (below_step q32_ hb);clear BK284;clear HB;have BK284:=n0_;have HB:=n1_;clear n0_ n1_;(try clear hb)) | (go_at_call 59;(with_reducible refine (spec_l3Hole.calls k t285 t286 t287 _ A5.out).mono ?_);rintro e w10 ⟨rfl,hb⟩;have n0_:=Aside0.mk (blk_below (g:=gb284) (o:=.cells #[.int .i64 a0_0,.bool a0_1,.int .i64 a0_2] 30 (0,0)) q58_ hb);have n1_:=Aside0.mk (below_step q32_ hb);clear BK284;clear HB;have BK284:=n0_;have HB:=n1_;clear n0_ n1_;(try clear hb)));go_upto_region 3 with (first | ((with_reducible refine gate_dst (N:=3) rfl ?_);refine box_event ?hg (N:=3) ?hd (cs:=#[.int .i64 a0_0,.bool a0_1,.int .i64 a0_2]) (t:=30) ?hr ?_;(case hd => rfl);(case hg => rfl);(case hr => exact q114_);intro gb284 hg w7 hbox hb;have n0_:=Aside0.mk (below_step q50_ hb);have n1_:=Aside0.mk (hbox);have n2_:=Aside0.mk ((q28_:w.heap.size ≤ gb284));have n3_:=Aside0.mk ((q28_:w.heap.size ≤ gb284));clear HB;have HB:=n0_;have BK284:=n1_;have GW284:=n2_;have GE284:=n3_;clear n0_ n1_ n2_ n3_;clear hb hbox hg;have hcz8_0:w7.cell? ⟨gb284,0,none⟩ = some (.int .i64 a0_0):=(blk_cell BK284.out 0).trans rfl;have hcz8_1:w7.cell? ⟨gb284,1,none⟩ = some (.bool a0_1):=(blk_cell BK284.out 1).trans rfl;have hcz8_2:w7.cell? ⟨gb284,2,none⟩ = some (.int .i64 a0_2):=(blk_cell BK284.out 2).trans rfl;have hfz8_0:=blk_frozen BK284.out 0;have hfz8_1:=blk_frozen BK284.out 1;have hfz8_2:=blk_frozen BK284.out 2) | (go_at_call 60;(with_reducible refine (spec_l3Template.calls k a0_0 a0_1 t285 _ A4.out).mono ?_);rintro e w9 ⟨rfl,hb⟩;have n0_:=Aside0.mk (blk_below (g:=gb284) (o:=.cells #[.int .i64 a0_0,.bool a0_1,.int .i64 a0_2] 30 (0,0)) q58_ hb);have n1_:=Aside0.mk (below_step q32_ hb);clear BK284;clear HB;have BK284:=n0_;have HB:=n1_;clear n0_ n1_;(try clear hb)) | (go_at_call 59;(with_reducible refine (spec_l3Hole.calls k t285 t286 t287 _ A5.out).mono ?_);rintro e w10 ⟨rfl,hb⟩;have n0_:=Aside0.mk (blk_below (g:=gb284) (o:=.cells #[.int .i64 a0_0,.bool a0_1,.int .i64 a0_2] 30 (0,0)) q58_ hb);have n1_:=Aside0.mk (below_step q32_ hb);clear BK284;clear HB;have BK284:=n0_;have HB:=n1_;clear n0_ n1_;(try clear hb))))
 (try simp only [Act.put,List.setIfInBounds_toArray,List.set_cons_zero,List.set_cons_succ])
 go_cut [27] (fun v27 wc => ∃ (kq:Nat) (x27_5:Bool),v27 = .bool x27_5 ∧ Aside0 (spec_l13Line.j0 kq a1 a2 t285 t286 x27_5 a0_0 a0_1 a0_2 = some r) ∧ Aside0 (kq ≤ k) ∧ Aside0 (wc.heap[gb284]? = some (.cells #[.int .i64 a0_0,.bool a0_1,.int .i64 a0_2] 30 (0,0))) ∧ Aside0 (Below w.heap.size w wc))
 case first =>
  have H:=HC6.out
  clear HC6
  by_cases c11:t287.toList = ([101,56]:List UInt8)
  ·rw [if_pos c11] at H
   have c11b0:(t287.toList == ([101,56]:List UInt8)) = true:=beq_iff_eq.mpr c11
   have c11b1:(t287.toList != ([101,56]:List UInt8)) = false:=bne_eq_false_iff_eq.mpr c11
   clear c11
   (first | rw [c11b0] | (simp only [i64_w,i32_w];rw [c11b0]) | skip)
   have H':=Aside0.mk H
   clear H
   have hcz12_0:w10.cell? ⟨gb284,0,none⟩ = some (.int .i64 a0_0):=bz_ BK284 0
   have hcz12_1:w10.cell? ⟨gb284,1,none⟩ = some (.bool a0_1):=bz_ BK284 1
   have hcz12_2:w10.cell? ⟨gb284,2,none⟩ = some (.int .i64 a0_2):=bz_ BK284 2
   have hfz12_0:=blk_frozen BK284.out 0
   have hfz12_1:=blk_frozen BK284.out 1
   have hfz12_2:=blk_frozen BK284.out 2
   go_wp2
   repeat (go_quiet (fail);try go_wp2)
   go_meet
   case rel => exact ⟨_,(decide (a0_0 < 64)),q69_,H',⟨q98_⟩,⟨q58_⟩,⟨q32_⟩⟩
  rw [if_neg c11] at H
  have c11b0:(t287.toList == ([101,56]:List UInt8)) = false:=beq_eq_false_iff_ne.mpr c11
  have c11b1:(t287.toList != ([101,56]:List UInt8)) = true:=bne_iff_ne.mpr c11
  (first | rw [c11b0] | (simp only [i64_w,i32_w];rw [c11b0]) | skip)
  have H':=Aside0.mk H
  clear H
  go_wp2
  repeat (go_quiet (fail);try go_wp2)
  go_meet
  case rel => exact ⟨_,(false),q69_,H',⟨q98_⟩,⟨q58_⟩,⟨q32_⟩⟩
 clear HC6
 try clear c1
 try clear p2
 try clear p6
 try clear c11
 try clear c11b0
 try clear c11b1
 try clear c12
 try clear hcz12_0 hcz12_1 hcz12_2
 try clear hcz8_0 hcz8_1 hcz8_2
 try clear hfz12_0 hfz12_1 hfz12_2
 try clear hfz8_0 hfz8_1 hfz8_2
 obtain ⟨kq,x27_5,rfl,HA,HJ5,BK284,HB⟩:=hcut
 cases kq with
 | zero => exact absurd HA.out (by simp [spec_l13Line.j0])
 | succ kj5 =>
  have H:=HA.out
  clear HA
  simp only [spec_l13Line.j0] at H
  by_cases c13:x27_5 = true
  ·subst c13
   replace H:((spec_SignedOf.f a0_2).bind fun t288 => ((spec_l4Word.f (wrap64 ((wrap64 (a1 + a2)) + t288))).bind fun t289 => (if t289 = true then (if 0 ≤ t286 then (if t286 ≤ (t285.size:Int) then ((spec_HexOf.f kj5 (wrap64 ((wrap64 (a1 + a2)) + t288)) 4).bind fun t290 => (if (t285.extract 0 (t286:Int).toNat).size + t290.size ≤ 9223372036854775807 then (if 0 ≤ (wrap64 (t286 + 2)) then (if (wrap64 (t286 + 2)) ≤ (t285.size:Int) then (if ((t285.extract 0 (t286:Int).toNat) ++ t290).size + (t285.extract ((wrap64 (t286 + 2)):Int).toNat t285.size).size ≤ 9223372036854775807 then (some (((t285.extract 0 (t286:Int).toNat) ++ t290) ++ (t285.extract ((wrap64 (t286 + 2)):Int).toNat t285.size))) else (none)) else (none)) else (none)) else (none))) else (none)) else (none)) else (some (⟨#[]⟩:ByteArray))))) = some r:=by rw [if_pos rfl] at H;exact H
   replace H:=Option.bind_eq_some_iff.mp H
   obtain ⟨t288,A140,H⟩:=H
   have A14:=Aside0.mk A140
   clear A140
   replace H:=Option.bind_eq_some_iff.mp H
   obtain ⟨t289,A150,H⟩:=H
   have A15:=Aside0.mk A150
   clear A150
   by_cases c16:t289 = true
   ·subst c16
    replace H:(if 0 ≤ t286 then (if t286 ≤ (t285.size:Int) then ((spec_HexOf.f kj5 (wrap64 ((wrap64 (a1 + a2)) + t288)) 4).bind fun t290 => (if (t285.extract 0 (t286:Int).toNat).size + t290.size ≤ 9223372036854775807 then (if 0 ≤ (wrap64 (t286 + 2)) then (if (wrap64 (t286 + 2)) ≤ (t285.size:Int) then (if ((t285.extract 0 (t286:Int).toNat) ++ t290).size + (t285.extract ((wrap64 (t286 + 2)):Int).toNat t285.size).size ≤ 9223372036854775807 then (some (((t285.extract 0 (t286:Int).toNat) ++ t290) ++ (t285.extract ((wrap64 (t286 + 2)):Int).toNat t285.size))) else (none)) else (none)) else (none)) else (none))) else (none)) else (none)) = some r:=by rw [if_pos rfl] at H;exact H
    by_cases c17:0 ≤ t286
    rotate_left
    ·rw [if_neg c17] at H
     exact absurd H (by simp)
    rw [if_pos c17] at H
    have c17b0:=eq_true c17
    have c17b1:decide (0 ≤ t286) = true:=decide_eq_true c17
    clear c17
    by_cases c18:t286 ≤ (t285.size:Int)
    rotate_left
    ·rw [if_neg c18] at H
     exact absurd H (by simp)
    rw [if_pos c18] at H
    have c18b0:=eq_true c18
    have c18b1:decide (t286 ≤ (t285.size:Int)) = true:=decide_eq_true c18
    clear c18
    replace H:=Option.bind_eq_some_iff.mp H
    obtain ⟨t290,A190,H⟩:=H
    have A19:=Aside0.mk A190
    clear A190
    by_cases c20:(t285.extract 0 (t286:Int).toNat).size + t290.size ≤ 9223372036854775807
    rotate_left
    ·rw [if_neg c20] at H
     exact absurd H (by simp)
    rw [if_pos c20] at H
    have c20b0:=eq_true c20
    (try (have c20b0e:=c20b0;simp only [ByteArray.size_append,ByteArray.size_extract,Nat.min_self,Nat.sub_zero] at c20b0e))
    (try (have c20b0f:=c20b0e;simp only [show min (t286:Int).toNat t285.size = (t286:Int).toNat from Nat.min_eq_left (by have q_:t286 ≤ (t285.size:Int):=of_decide_eq_true q86_;omega)] at c20b0f))
    have c20b1:decide ((t285.extract 0 (t286:Int).toNat).size + t290.size ≤ 9223372036854775807) = true:=decide_eq_true c20
    (try (have c20b1e:=c20b1;simp only [ByteArray.size_append,ByteArray.size_extract,Nat.min_self,Nat.sub_zero] at c20b1e))
    (try (have c20b1f:=c20b1e;simp only [show min (t286:Int).toNat t285.size = (t286:Int).toNat from Nat.min_eq_left (by have q_:t286 ≤ (t285.size:Int):=of_decide_eq_true q86_;omega)] at c20b1f))
    try have c20b2:(9223372036854775807 < (t285.extract 0 (t286:Int).toNat).size + t290.size) = False:=eq_false (Nat.not_lt.2 c20)
    (try (have c20b2e:=c20b2;simp only [ByteArray.size_append,ByteArray.size_extract,Nat.min_self,Nat.sub_zero] at c20b2e))
    (try (first | (have c20b2p:=eq_true (of_decide_eq_true c20b2e)) | (have c20b2p:=eq_false (of_decide_eq_false c20b2e))))
    (try (have c20b2f:=c20b2e;simp only [show min (t286:Int).toNat t285.size = (t286:Int).toNat from Nat.min_eq_left (by have q_:t286 ≤ (t285.size:Int):=of_decide_eq_true q86_;omega)] at c20b2f))
    obtain ⟨ji21,hji21⟩:∃ j_:Int,(wrap64 (t286 + 2)) = j_:=⟨_,rfl⟩
    replace H:(if 0 ≤ (ji21) then (if (ji21) ≤ (t285.size:Int) then (if ((t285.extract 0 (t286:Int).toNat) ++ t290).size + (t285.extract ((ji21):Int).toNat t285.size).size ≤ 9223372036854775807 then (some (((t285.extract 0 (t286:Int).toNat) ++ t290) ++ (t285.extract ((ji21):Int).toNat t285.size))) else (none)) else (none)) else (none)) = some r:=by first | (rw [hji21] at H;exact H) | (simp only [hji21] at H ⊢;exact H)
    (try rw [hji21] at A14)
    (try rw [hji21] at A15)
    (try rw [hji21] at A19)
    have hji21w:(IntKind.i64.wrap (t286 + 2)) = ji21:=(i64_w _).trans hji21
    by_cases c22:0 ≤ (ji21)
    rotate_left
    ·rw [if_neg c22] at H
     exact absurd H (by simp)
    rw [if_pos c22] at H
    have c22b0:=eq_true c22
    have c22b1:decide (0 ≤ (ji21)) = true:=decide_eq_true c22
    clear c22
    by_cases c23:(ji21) ≤ (t285.size:Int)
    rotate_left
    ·rw [if_neg c23] at H
     exact absurd H (by simp)
    rw [if_pos c23] at H
    have c23b0:=eq_true c23
    have c23b1:decide ((ji21) ≤ (t285.size:Int)) = true:=decide_eq_true c23
    clear c23
    by_cases c24:((t285.extract 0 (t286:Int).toNat) ++ t290).size + (t285.extract ((ji21):Int).toNat t285.size).size ≤ 9223372036854775807
    rotate_left
    ·rw [if_neg c24] at H
     exact absurd H (by simp)
    rw [if_pos c24] at H
    have c24b0:=eq_true c24
    (try (have c24b0e:=c24b0;simp only [ByteArray.size_append,ByteArray.size_extract,Nat.min_self,Nat.sub_zero] at c24b0e))
    (try (have c24b0f:=c24b0e;simp only [show min (t286:Int).toNat t285.size = (t286:Int).toNat from Nat.min_eq_left (by have q_:t286 ≤ (t285.size:Int):=of_decide_eq_true q86_;omega)] at c24b0f))
    have c24b1:decide (((t285.extract 0 (t286:Int).toNat) ++ t290).size + (t285.extract ((ji21):Int).toNat t285.size).size ≤ 9223372036854775807) = true:=decide_eq_true c24
    (try (have c24b1e:=c24b1;simp only [ByteArray.size_append,ByteArray.size_extract,Nat.min_self,Nat.sub_zero] at c24b1e))
    (try (have c24b1f:=c24b1e;simp only [show min (t286:Int).toNat t285.size = (t286:Int).toNat from Nat.min_eq_left (by have q_:t286 ≤ (t285.size:Int):=of_decide_eq_true q86_;omega)] at c24b1f))
    try have c24b2:(9223372036854775807 < ((t285.extract 0 (t286:Int).toNat) ++ t290).size + (t285.extract ((ji21):Int).toNat t285.size).size) = False:=eq_false (Nat.not_lt.2 c24)
    (try (have c24b2e:=c24b2;simp only [ByteArray.size_append,ByteArray.size_extract,Nat.min_self,Nat.sub_zero] at c24b2e))
    (try (first | (have c24b2p:=eq_true (of_decide_eq_true c24b2e)) | (have c24b2p:=eq_false (of_decide_eq_false c24b2e))))
    (try (have c24b2f:=c24b2e;simp only [show min (t286:Int).toNat t285.size = (t286:Int).toNat from Nat.min_eq_left (by have q_:t286 ≤ (t285.size:Int):=of_decide_eq_true q86_;omega)] at c24b2f))
    obtain rfl:=Option.some.inj H
    have hcz25_0:wc.cell? ⟨gb284,0,none⟩ = some (.int .i64 a0_0):=bz_ BK284 0
    have hcz25_1:wc.cell? ⟨gb284,1,none⟩ = some (.bool a0_1):=bz_ BK284 1
    have hcz25_2:wc.cell? ⟨gb284,2,none⟩ = some (.int .i64 a0_2):=bz_ BK284 2
    have hfz25_0:=blk_frozen BK284.out 0
    have hfz25_1:=blk_frozen BK284.out 1
    have hfz25_2:=blk_frozen BK284.out 2
    go_wp2_with (first | (go_at_call 72;(with_reducible refine (spec_SignedOf.calls a0_2 t288 _ A14.out).mono ?_);rintro e w' ⟨rfl,⟨nd,rfl⟩⟩;(try first | exact ⟨rfl,_,World.drewN_drewN _ _ _⟩ | exact ⟨rfl,_,Eq.trans (World.drewN_drewN _ _ _) (congrArg (World.drewN _) (Nat.add_assoc _ _ _))⟩)) | (go_at_call 155;(with_reducible refine (spec_l4Word.calls (wrap64 ((wrap64 (a1 + a2)) + t288)) true _ A15.out).mono ?_);rintro e w' ⟨rfl,⟨nd,rfl⟩⟩;(try first | exact ⟨rfl,_,World.drewN_drewN _ _ _⟩ | exact ⟨rfl,_,Eq.trans (World.drewN_drewN _ _ _) (congrArg (World.drewN _) (Nat.add_assoc _ _ _))⟩)) | (go_at_call 70;(with_reducible refine (spec_HexOf.calls kj5 (wrap64 ((wrap64 (a1 + a2)) + t288)) 4 t290 _ A19.out).mono ?_);rintro e w' ⟨rfl,⟨nd,rfl⟩⟩;(try first | exact ⟨rfl,_,World.drewN_drewN _ _ _⟩ | exact ⟨rfl,_,Eq.trans (World.drewN_drewN _ _ _) (congrArg (World.drewN _) (Nat.add_assoc _ _ _))⟩)))
    repeat (go_quiet (first | (go_at_call 72;(with_reducible refine (spec_SignedOf.calls a0_2 t288 _ A14.out).mono ?_);rintro e w' ⟨rfl,⟨nd,rfl⟩⟩;(try first | exact ⟨rfl,_,World.drewN_drewN _ _ _⟩ | exact ⟨rfl,_,Eq.trans (World.drewN_drewN _ _ _) (congrArg (World.drewN _) (Nat.add_assoc _ _ _))⟩)) | (go_at_call 155;(with_reducible refine (spec_l4Word.calls (wrap64 ((wrap64 (a1 + a2)) + t288)) true _ A15.out).mono ?_);rintro e w' ⟨rfl,⟨nd,rfl⟩⟩;(try first | exact ⟨rfl,_,World.drewN_drewN _ _ _⟩ | exact ⟨rfl,_,Eq.trans (World.drewN_drewN _ _ _) (congrArg (World.drewN _) (Nat.add_assoc _ _ _))⟩)) | (go_at_call 70;(with_reducible refine (spec_HexOf.calls kj5 (wrap64 ((wrap64 (a1 + a2)) + t288)) 4 t290 _ A19.out).mono ?_);rintro e w' ⟨rfl,⟨nd,rfl⟩⟩;(try first | exact ⟨rfl,_,World.drewN_drewN _ _ _⟩ | exact ⟨rfl,_,Eq.trans (World.drewN_drewN _ _ _) (congrArg (World.drewN _) (Nat.add_assoc _ _ _))⟩)));try go_wp2_with (first | (go_at_call 72;(with_reducible refine (spec_SignedOf.calls a0_2 t288 _ A14.out).mono ?_);rintro e w' ⟨rfl,⟨nd,rfl⟩⟩;(try first | exact ⟨rfl,_,World.drewN_drewN _ _ _⟩ | exact ⟨rfl,_,Eq.trans (World.drewN_drewN _ _ _) (congrArg (World.drewN _) (Nat.add_assoc _ _ _))⟩)) | (go_at_call 155;(with_reducible refine (spec_l4Word.calls (wrap64 ((wrap64 (a1 + a2)) + t288)) true _ A15.out).mono ?_);rintro e w' ⟨rfl,⟨nd,rfl⟩⟩;(try first | exact ⟨rfl,_,World.drewN_drewN _ _ _⟩ | exact ⟨rfl,_,Eq.trans (World.drewN_drewN _ _ _) (congrArg (World.drewN _) (Nat.add_assoc _ _ _))⟩)) | (go_at_call 70;(with_reducible refine (spec_HexOf.calls kj5 (wrap64 ((wrap64 (a1 + a2)) + t288)) 4 t290 _ A19.out).mono ?_);rintro e w' ⟨rfl,⟨nd,rfl⟩⟩;(try first | exact ⟨rfl,_,World.drewN_drewN _ _ _⟩ | exact ⟨rfl,_,Eq.trans (World.drewN_drewN _ _ _) (congrArg (World.drewN _) (Nat.add_assoc _ _ _))⟩))))
    go_ret
    exact ⟨q15_,q32_⟩
   replace c16:=Bool.eq_false_iff.mpr c16
   subst c16
   replace H:(some (⟨#[]⟩:ByteArray)) = some r:=by rw [if_neg (show ¬ (false = true) by decide)] at H;exact H
   obtain rfl:=Option.some.inj H
   have hcz26_0:wc.cell? ⟨gb284,0,none⟩ = some (.int .i64 a0_0):=bz_ BK284 0
   have hcz26_1:wc.cell? ⟨gb284,1,none⟩ = some (.bool a0_1):=bz_ BK284 1
   have hcz26_2:wc.cell? ⟨gb284,2,none⟩ = some (.int .i64 a0_2):=bz_ BK284 2
   have hfz26_0:=blk_frozen BK284.out 0
   have hfz26_1:=blk_frozen BK284.out 1
   have hfz26_2:=blk_frozen BK284.out 2
   go_wp2_with (first | (go_at_call 72;(with_reducible refine (spec_SignedOf.calls a0_2 t288 _ A14.out).mono ?_);rintro e w' ⟨rfl,⟨nd,rfl⟩⟩;(try first | exact ⟨rfl,_,World.drewN_drewN _ _ _⟩ | exact ⟨rfl,_,Eq.trans (World.drewN_drewN _ _ _) (congrArg (World.drewN _) (Nat.add_assoc _ _ _))⟩)) | (go_at_call 155;(with_reducible refine (spec_l4Word.calls (wrap64 ((wrap64 (a1 + a2)) + t288)) false _ A15.out).mono ?_);rintro e w' ⟨rfl,⟨nd,rfl⟩⟩;(try first | exact ⟨rfl,_,World.drewN_drewN _ _ _⟩ | exact ⟨rfl,_,Eq.trans (World.drewN_drewN _ _ _) (congrArg (World.drewN _) (Nat.add_assoc _ _ _))⟩)))
   repeat (go_quiet (first | (go_at_call 72;(with_reducible refine (spec_SignedOf.calls a0_2 t288 _ A14.out).mono ?_);rintro e w' ⟨rfl,⟨nd,rfl⟩⟩;(try first | exact ⟨rfl,_,World.drewN_drewN _ _ _⟩ | exact ⟨rfl,_,Eq.trans (World.drewN_drewN _ _ _) (congrArg (World.drewN _) (Nat.add_assoc _ _ _))⟩)) | (go_at_call 155;(with_reducible refine (spec_l4Word.calls (wrap64 ((wrap64 (a1 + a2)) + t288)) false _ A15.out).mono ?_);rintro e w' ⟨rfl,⟨nd,rfl⟩⟩;(try first | exact ⟨rfl,_,World.drewN_drewN _ _ _⟩ | exact ⟨rfl,_,Eq.trans (World.drewN_drewN _ _ _) (congrArg (World.drewN _) (Nat.add_assoc _ _ _))⟩)));try go_wp2_with (first | (go_at_call 72;(with_reducible refine (spec_SignedOf.calls a0_2 t288 _ A14.out).mono ?_);rintro e w' ⟨rfl,⟨nd,rfl⟩⟩;(try first | exact ⟨rfl,_,World.drewN_drewN _ _ _⟩ | exact ⟨rfl,_,Eq.trans (World.drewN_drewN _ _ _) (congrArg (World.drewN _) (Nat.add_assoc _ _ _))⟩)) | (go_at_call 155;(with_reducible refine (spec_l4Word.calls (wrap64 ((wrap64 (a1 + a2)) + t288)) false _ A15.out).mono ?_);rintro e w' ⟨rfl,⟨nd,rfl⟩⟩;(try first | exact ⟨rfl,_,World.drewN_drewN _ _ _⟩ | exact ⟨rfl,_,Eq.trans (World.drewN_drewN _ _ _) (congrArg (World.drewN _) (Nat.add_assoc _ _ _))⟩))))
   go_ret
   exact ⟨q53_,q32_⟩
  replace c13:=Bool.eq_false_iff.mpr c13
  subst c13
  replace H:((spec_InsText.f kj5 a0_0 a0_1 a0_2).bind fun t291 => (some t291)) = some r:=by rw [if_neg (show ¬ (false = true) by decide)] at H;exact H
  replace H:=Option.bind_eq_some_iff.mp H
  obtain ⟨t291,A270,H⟩:=H
  have A27:=Aside0.mk A270
  clear A270
  obtain rfl:=Option.some.inj H
  have hcz28_0:wc.cell? ⟨gb284,0,none⟩ = some (.int .i64 a0_0):=bz_ BK284 0
  have hcz28_1:wc.cell? ⟨gb284,1,none⟩ = some (.bool a0_1):=bz_ BK284 1
  have hcz28_2:wc.cell? ⟨gb284,2,none⟩ = some (.int .i64 a0_2):=bz_ BK284 2
  have hfz28_0:=blk_frozen BK284.out 0
  have hfz28_1:=blk_frozen BK284.out 1
  have hfz28_2:=blk_frozen BK284.out 2
  go_wp2_with (first | (go_at_call 28;(with_reducible refine (spec_InsText.calls kj5 a0_0 a0_1 a0_2 t291 _ A27.out).mono ?_);rintro e w29 ⟨rfl,hb⟩;have n0_:=Aside0.mk (blk_below (g:=gb284) (o:=.cells #[.int .i64 a0_0,.bool a0_1,.int .i64 a0_2] 30 (0,0)) q58_ hb);have n1_:=Aside0.mk (below_step q32_ hb);clear BK284;clear HB;have BK284:=n0_;have HB:=n1_;clear n0_ n1_;(try clear hb)))
  repeat (go_quiet (first | (go_at_call 28;(with_reducible refine (spec_InsText.calls kj5 a0_0 a0_1 a0_2 t291 _ A27.out).mono ?_);rintro e w29 ⟨rfl,hb⟩;have n0_:=Aside0.mk (blk_below (g:=gb284) (o:=.cells #[.int .i64 a0_0,.bool a0_1,.int .i64 a0_2] 30 (0,0)) q58_ hb);have n1_:=Aside0.mk (below_step q32_ hb);clear BK284;clear HB;have BK284:=n0_;have HB:=n1_;clear n0_ n1_;(try clear hb)));try go_wp2_with (first | (go_at_call 28;(with_reducible refine (spec_InsText.calls kj5 a0_0 a0_1 a0_2 t291 _ A27.out).mono ?_);rintro e w29 ⟨rfl,hb⟩;have n0_:=Aside0.mk (blk_below (g:=gb284) (o:=.cells #[.int .i64 a0_0,.bool a0_1,.int .i64 a0_2] 30 (0,0)) q58_ hb);have n1_:=Aside0.mk (below_step q32_ hb);clear BK284;clear HB;have BK284:=n0_;have HB:=n1_;clear n0_ n1_;(try clear hb))))
  go_ret
  exact ⟨q53_,q32_⟩
mutual
def spec_l13Listed.l0:Nat → ByteArray → Int → List ByteArray → Int → Option (List ByteArray)
 | 0,_,_,_,_ => none
 | k + 1,x0,x1,x5,x6 => if x6 < (x0.size:Int) then (spec_l13Listed.l1 k x0 x1 x5 x6 0) else (some x5)
def spec_l13Listed.j2:Nat → ByteArray → Int → List ByteArray → Int → Int → Option (List ByteArray)
 | 0,_,_,_,_,_ => none
 | k + 1,x0,x1,x5,x6,x7 => if x7 > 3 then ((spec_l1Dec.f k x7).bind fun t295 => (if 3 + t295.size ≤ 9223372036854775807 then (if x5.length < 8796093022208 then (spec_l13Listed.l0 k x0 x1 (x5 ++ [(⟨#[100,115,32]⟩:ByteArray) ++ t295]) (wrap64 (x6 + x7))) else (none)) else (none))) else ((spec_ReadIns.f k x0 x6).bind fun bt299 => (if bt299.2.2.2 > 0 then ((spec_l13Line.f k bt299.1 bt299.2.1 bt299.2.2.1 (wrap64 (x1 + x6)) bt299.2.2.2).bind fun t304 => (spec_l13Listed.j3 k x0 x1 x5 x6 bt299.2.2.2 t304)) else (spec_l13Listed.j3 k x0 x1 x5 x6 bt299.2.2.2 (⟨#[]⟩:ByteArray))))
def spec_l13Listed.j3:Nat → ByteArray → Int → List ByteArray → Int → Int → ByteArray → Option (List ByteArray)
 | 0,_,_,_,_,_,_ => none
 | k + 1,x0,x1,x5,x6,x9,x10 => if x10.toList = ([]:List UInt8) then (if 0 ≤ x6 then (if x6 < (x0.size:Int) then ((spec_HexOf.f k (wrap64 (bt x0 x6)) 2).bind fun t305 => (if 3 + t305.size ≤ 9223372036854775807 then (if x5.length < 8796093022208 then (spec_l13Listed.l0 k x0 x1 (x5 ++ [(⟨#[100,98,32]⟩:ByteArray) ++ t305]) (wrap64 (x6 + 1))) else (none)) else (none))) else (none)) else (none)) else (if x5.length < 8796093022208 then (spec_l13Listed.l0 k x0 x1 (x5 ++ [x10]) (wrap64 (x6 + x9))) else (none))
def spec_l13Listed.l1:Nat → ByteArray → Int → List ByteArray → Int → Int → Option (List ByteArray)
 | 0,_,_,_,_,_ => none
 | k + 1,x0,x1,x5,x6,x7 => if (wrap64 (x6 + x7)) < (x0.size:Int) then (if 0 ≤ (wrap64 (x6 + x7)) then (if (bt x0 (wrap64 (x6 + x7))) = 0 then (spec_l13Listed.l1 k x0 x1 x5 x6 (wrap64 (x7 + 1))) else (spec_l13Listed.j2 k x0 x1 x5 x6 x7)) else (none)) else (spec_l13Listed.j2 k x0 x1 x5 x6 x7)
end
def spec_l13Listed.f (k:Nat) (a0:ByteArray) (a1:Int):Option (List ByteArray):=spec_l13Listed.l0 k a0 a1 (([]:List ByteArray)) 0
theorem spec_l13Listed.mono_l:∀ k,(∀ y0 y1 y2 y3,LeO (spec_l13Listed.l0 k y0 y1 y2 y3) (spec_l13Listed.l0 (k + 1) y0 y1 y2 y3)) ∧ (∀ y0 y1 y2 y3 y4,LeO (spec_l13Listed.j2 k y0 y1 y2 y3 y4) (spec_l13Listed.j2 (k + 1) y0 y1 y2 y3 y4)) ∧ (∀ y0 y1 y2 y3 y4 y5,LeO (spec_l13Listed.j3 k y0 y1 y2 y3 y4 y5) (spec_l13Listed.j3 (k + 1) y0 y1 y2 y3 y4 y5)) ∧ (∀ y0 y1 y2 y3 y4,LeO (spec_l13Listed.l1 k y0 y1 y2 y3 y4) (spec_l13Listed.l1 (k + 1) y0 y1 y2 y3 y4))
 | 0 => ⟨fun _ _ _ _ r h => by simp [spec_l13Listed.l0] at h,fun _ _ _ _ _ r h => by simp [spec_l13Listed.j2] at h,fun _ _ _ _ _ _ r h => by simp [spec_l13Listed.j3] at h,fun _ _ _ _ _ r h => by simp [spec_l13Listed.l1] at h⟩
 | k + 1 => by
  obtain ⟨ih0,ih1,ih2,ih3⟩:=spec_l13Listed.mono_l k
  refine ⟨?_,?_,?_,?_⟩
  ·intro y0 y1 y2 y3
   unfold spec_l13Listed.l0
   repeat' first
   | (with_reducible first | exact ih0 _ _ _ _ | exact ih1 _ _ _ _ _ | exact ih2 _ _ _ _ _ _ | exact ih3 _ _ _ _ _ | exact spec_HexOf.mono _ _ _ | exact spec_ReadIns.mono _ _ _ | exact spec_l13Line.mono _ _ _ _ _ _ | exact spec_l1Dec.mono _ _ | exact LeO.refl _ | exact LeO.none _ | refine LeO.ite ?_ ?_ | refine LeO.bind ?_ (fun _ => ?_))
   | exact ih0 _ _ _ _
   | exact ih1 _ _ _ _ _
   | exact ih2 _ _ _ _ _ _
   | exact ih3 _ _ _ _ _
   | exact spec_HexOf.mono _ _ _
   | exact spec_ReadIns.mono _ _ _
   | exact spec_l13Line.mono _ _ _ _ _ _
   | exact spec_l1Dec.mono _ _
   | exact LeO.none _
   | refine LeO.ite ?_ ?_
   | refine LeO.bind ?_ (fun _ => ?_)
  ·intro y0 y1 y2 y3 y4
   unfold spec_l13Listed.j2
   repeat' first
   | (with_reducible first | exact ih0 _ _ _ _ | exact ih1 _ _ _ _ _ | exact ih2 _ _ _ _ _ _ | exact ih3 _ _ _ _ _ | exact spec_HexOf.mono _ _ _ | exact spec_ReadIns.mono _ _ _ | exact spec_l13Line.mono _ _ _ _ _ _ | exact spec_l1Dec.mono _ _ | exact LeO.refl _ | exact LeO.none _ | refine LeO.ite ?_ ?_ | refine LeO.bind ?_ (fun _ => ?_))
   | exact ih0 _ _ _ _
   | exact ih1 _ _ _ _ _
   | exact ih2 _ _ _ _ _ _
   | exact ih3 _ _ _ _ _
   | exact spec_HexOf.mono _ _ _
   | exact spec_ReadIns.mono _ _ _
   | exact spec_l13Line.mono _ _ _ _ _ _
   | exact spec_l1Dec.mono _ _
   | exact LeO.none _
   | refine LeO.ite ?_ ?_
   | refine LeO.bind ?_ (fun _ => ?_)
  ·intro y0 y1 y2 y3 y4 y5
   unfold spec_l13Listed.j3
   repeat' first
   | (with_reducible first | exact ih0 _ _ _ _ | exact ih1 _ _ _ _ _ | exact ih2 _ _ _ _ _ _ | exact ih3 _ _ _ _ _ | exact spec_HexOf.mono _ _ _ | exact spec_ReadIns.mono _ _ _ | exact spec_l13Line.mono _ _ _ _ _ _ | exact spec_l1Dec.mono _ _ | exact LeO.refl _ | exact LeO.none _ | refine LeO.ite ?_ ?_ | refine LeO.bind ?_ (fun _ => ?_))
   | exact ih0 _ _ _ _
   | exact ih1 _ _ _ _ _
   | exact ih2 _ _ _ _ _ _
   | exact ih3 _ _ _ _ _
   | exact spec_HexOf.mono _ _ _
   | exact spec_ReadIns.mono _ _ _
   | exact spec_l13Line.mono _ _ _ _ _ _
   | exact spec_l1Dec.mono _ _
   | exact LeO.none _
   | refine LeO.ite ?_ ?_
   | refine LeO.bind ?_ (fun _ => ?_)
  intro y0 y1 y2 y3 y4
  unfold spec_l13Listed.l1
  repeat' first
  | (with_reducible first | exact ih0 _ _ _ _ | exact ih1 _ _ _ _ _ | exact ih2 _ _ _ _ _ _ | exact ih3 _ _ _ _ _ | exact spec_HexOf.mono _ _ _ | exact spec_ReadIns.mono _ _ _ | exact spec_l13Line.mono _ _ _ _ _ _ | exact spec_l1Dec.mono _ _ | exact LeO.refl _ | exact LeO.none _ | refine LeO.ite ?_ ?_ | refine LeO.bind ?_ (fun _ => ?_))
  | exact ih0 _ _ _ _
  | exact ih1 _ _ _ _ _
  | exact ih2 _ _ _ _ _ _
  | exact ih3 _ _ _ _ _
  | exact spec_HexOf.mono _ _ _
  | exact spec_ReadIns.mono _ _ _
  | exact spec_l13Line.mono _ _ _ _ _ _
  | exact spec_l1Dec.mono _ _
  | exact LeO.none _
  | refine LeO.ite ?_ ?_
  | refine LeO.bind ?_ (fun _ => ?_)
theorem spec_l13Listed.mono:∀ a0 a1 k,LeO (spec_l13Listed.f k a0 a1) (spec_l13Listed.f (k + 1) a0 a1):=by
 intro a0 a1 k
 obtain ⟨ih0,ih1,ih2,ih3⟩:=spec_l13Listed.mono_l k
 unfold spec_l13Listed.f
 repeat' first
   | (with_reducible first | exact ih0 _ _ _ _ | exact ih1 _ _ _ _ _ | exact ih2 _ _ _ _ _ _ | exact ih3 _ _ _ _ _ | exact spec_HexOf.mono _ _ _ | exact spec_ReadIns.mono _ _ _ | exact spec_l13Line.mono _ _ _ _ _ _ | exact spec_l1Dec.mono _ _ | exact LeO.refl _ | exact LeO.none _ | refine LeO.ite ?_ ?_ | refine LeO.bind ?_ (fun _ => ?_))
   | exact ih0 _ _ _ _
   | exact ih1 _ _ _ _ _
   | exact ih2 _ _ _ _ _ _
   | exact ih3 _ _ _ _ _
   | exact spec_HexOf.mono _ _ _
   | exact spec_ReadIns.mono _ _ _
   | exact spec_l13Line.mono _ _ _ _ _ _
   | exact spec_l1Dec.mono _ _
   | exact LeO.none _
   | refine LeO.ite ?_ ?_
   | refine LeO.bind ?_ (fun _ => ?_)
theorem spec_l13Listed.calls (k:Nat) (a0:ByteArray) (a1:Int) (r:List ByteArray) (w:World) (h:spec_l13Listed.f k a0 a1 = some r) :
  Calls Tryz.prog 86 #[.string a0,.int .i64 a1] w fun e w' => ∃ v0_:Value,e = .returned (v0_) ∧ Kd.R Kd.string 9 w' w.heap.size (fun _ => True) v0_ r ∧ Below w.heap.size w w':=by
 have hu30:=Tryz.underlying30
 have HB:=Aside0.mk (Below.refl w.heap.size w)
 have H:(spec_l13Listed.l0 k a0 a1 (([]:List ByteArray)) 0) = some r:=h
 clear h
 obtain ⟨y292,hy292⟩:∃ y_:List ByteArray,y_ = (([]:List ByteArray)):=⟨_,rfl⟩
 replace H:(spec_l13Listed.l0 k a0 a1 y292 0) = some r:=by first | (rw [hy292];with_reducible exact H) | (have H2_:=(Option.bind_some _ _).symm.trans H;rw [hy292];with_reducible exact H2_) | (have H2_:=(Option.bind_some _ _).symm.trans H;with_reducible exact H2_) | with_reducible exact H | (rw [hy292];exact H) | exact H
 have Ny292:=Aside0.mk hy292
 clear hy292
 have H':=Aside0.mk H
 clear H
 go_enter Tryz.func86,Tryz.ntmps86
 go_wp2_with (first | ((with_reducible refine gate_dst (N:=11) rfl ?_);refine Kd.R_lit Kd.string _ 9 ?hg (N:=11) ?hd (xs:=([]:List ByteArray)) (inner:=[]) (ok:=fun _ => True) (okp:=fun _ => True) ?hr ?hp (fun _ hk => hk) trivial (Below.refl _ _) (Nat.le_refl _) (by simp) ?_;(case hd => rfl);(case hg => rfl);(case hr => exact q114_);(case hp => exact (Reps.none _ _));intro v293 w3 ho4 hb hg_ hnew_;clear hg_ hnew_;(first | rw [← Ny292.out] at ho4 | (simp only [Int.reduceToNat] at ho4;rw [← Ny292.out] at ho4));have n0_:=Aside0.mk (Kd.R_lower ho4 (below_size q50_));have n1_:=Aside0.mk (below_step q50_ hb);clear HB;have HO294:=n0_;have HB:=n1_;clear n0_ n1_;clear hb ho4))
 go_loopg [5,6] k (fun kq v5 v6 w' => ∃ (x5_1:List ByteArray) (x6_1:Int),v6 = .int .i64 x6_1 ∧ Aside0 (spec_l13Listed.l0 kq a0 a1 x5_1 x6_1 = some r) ∧ Aside0 (kq ≤ k) ∧ Aside0 (Kd.R Kd.string 9 w' w.heap.size (fun _ => True) v5 x5_1) ∧ Aside0 (Below w.heap.size w w'))
 case atStart => exact ⟨(y292),(0),q69_,H',⟨Nat.le_refl _⟩,⟨by (with_reducible repeat (first | apply Kd.R_alloc | apply Kd.R_drewN | apply Kd.R_drew));exact HO294.out⟩,⟨q50_⟩⟩
 clear H'
 try clear p2
 obtain ⟨x5_1,x6_1,rfl,HA,HK1,HO_5,HB⟩:=hrel
 cases gk with
 | zero => exact absurd HA.out (by simp [spec_l13Listed.l0])
 | succ k1 =>
  have H:=HA.out
  clear HA
  simp only [spec_l13Listed.l0] at H
  by_cases c5:x6_1 < (a0.size:Int)
  ·rw [if_pos c5] at H
   have c5b0:decide (x6_1 < (a0.size:Int)) = true:=decide_eq_true c5
   clear c5
   have HC6:=Aside0.mk H
   clear H
   go_upto_block 2 with (fail)
   go_cut [7] (fun v7 wc => ∃ (kq:Nat) (x7_5:Int),v7 = .int .i64 x7_5 ∧ Aside0 (spec_l13Listed.j2 kq a0 a1 x5_1 x6_1 x7_5 = some r) ∧ Aside0 (kq ≤ k1) ∧ Aside0 (Kd.R Kd.string 9 wc w.heap.size (fun _ => True) u5 x5_1) ∧ Aside0 (Below w.heap.size w wc))
   case first =>
    have H:=HC6.out
    clear HC6
    have H':=Aside0.mk H
    clear H
    go_wp2
    go_loopg [7] k1 (fun kq v7 w' => ∃ (x7_2:Int),v7 = .int .i64 x7_2 ∧ Aside0 (spec_l13Listed.l1 kq a0 a1 x5_1 x6_1 x7_2 = some r) ∧ Aside0 (kq ≤ k1) ∧ Aside0 (Kd.R Kd.string 9 w' w.heap.size (fun _ => True) u5 x5_1) ∧ Aside0 (Below w.heap.size w w'))
    case atStart => exact ⟨(0),q69_,H',⟨Nat.le_refl _⟩,⟨q82_⟩,⟨q50_⟩⟩
    clear H'
    try clear p2 p2
    try clear c5
    try clear c5b0
    try clear p6
    obtain ⟨x7_2,rfl,HA,HK2,HO_5,HB⟩:=hrel
    cases gk with
    | zero => exact absurd HA.out (by simp [spec_l13Listed.l1])
    | succ k2 =>
     have H:=HA.out
     clear HA
     simp only [spec_l13Listed.l1] at H
     by_cases c7:(wrap64 (x6_1 + x7_2)) < (a0.size:Int)
     ·rw [if_pos c7] at H
      have c7b0:decide ((wrap64 (x6_1 + x7_2)) < (a0.size:Int)) = true:=decide_eq_true c7
      clear c7
      (first | rw [c7b0] | (simp only [i64_w,i32_w];rw [c7b0]) | skip)
      obtain ⟨ji8,hji8⟩:∃ j_:Int,(wrap64 (x6_1 + x7_2)) = j_:=⟨_,rfl⟩
      replace H:(if 0 ≤ (ji8) then (if (bt a0 (ji8)) = 0 then (spec_l13Listed.l1 k2 a0 a1 x5_1 x6_1 (wrap64 (x7_2 + 1))) else (spec_l13Listed.j2 k2 a0 a1 x5_1 x6_1 x7_2)) else (none)) = some r:=by first | (rw [hji8] at H;exact H) | (simp only [hji8] at H ⊢;exact H)
      (try rw [hji8] at c7b0)
      have hji8w:(IntKind.i64.wrap (x6_1 + x7_2)) = ji8:=(i64_w _).trans hji8
      by_cases c9:0 ≤ (ji8)
      rotate_left
      ·rw [if_neg c9] at H
       exact absurd H (by simp)
      rw [if_pos c9] at H
      have c9b0:decide (0 ≤ (ji8)) = true:=decide_eq_true c9
      clear c9
      by_cases c11:(bt a0 (ji8)) = 0
      ·rw [if_pos c11] at H
       have c11b0:((bt a0 (ji8)) == 0) = true:=beq_iff_eq.mpr c11
       have c11b1:((bt a0 (ji8)) != 0) = false:=bne_eq_false_iff_eq.mpr c11
       clear c11
       have H':=Aside0.mk H
       clear H
       have p10:0 ≤ ((ji8):Int):=of_decide_eq_true q86_
       have q10:(ji8) < (a0.size:Int):=of_decide_eq_true q86_
       have hx10:=bt_at a0 (ji8)
       replace p10:=eq_true p10
       replace q10:=eq_true q10
       go_wp2
       go_roundg k2
       case measure => have:=HK1.out;have:=HK2.out;omega
       case rel => exact ⟨(wrap64 (x7_2 + 1)),q69_,q66_,⟨by have:=HK1.out;have:=HK2.out;omega⟩,⟨q82_⟩,⟨q50_⟩⟩
      rw [if_neg c11] at H
      have c11b0:((bt a0 (ji8)) == 0) = false:=beq_eq_false_iff_ne.mpr c11
      have c11b1:((bt a0 (ji8)) != 0) = true:=bne_iff_ne.mpr c11
      have H':=Aside0.mk H
      clear H
      have p10:0 ≤ ((ji8):Int):=of_decide_eq_true q86_
      have q10:(ji8) < (a0.size:Int):=of_decide_eq_true q86_
      have hx10:=bt_at a0 (ji8)
      replace p10:=eq_true p10
      replace q10:=eq_true q10
      go_wp2
      go_meet
      case rel => exact ⟨_,(x7_2),q69_,q66_,⟨by have:=HK1.out;have:=HK2.out;first | omega | exact Nat.le_refl _⟩,⟨q82_⟩,⟨q50_⟩⟩
     rw [if_neg c7] at H
     have c7b0:decide ((wrap64 (x6_1 + x7_2)) < (a0.size:Int)) = false:=decide_eq_false c7
     clear c7
     (first | rw [c7b0] | (simp only [i64_w,i32_w];rw [c7b0]) | skip)
     have H':=Aside0.mk H
     clear H
     go_wp2
     go_meet
     case rel => exact ⟨_,(x7_2),q69_,H',⟨by have:=HK1.out;have:=HK2.out;first | omega | exact Nat.le_refl _⟩,⟨q82_⟩,⟨q50_⟩⟩
   clear HC6
   try clear c1
   try clear p1
   try clear q1
   try clear hx1
   try clear p2 p2
   try clear c5
   try clear c5b0
   try clear p6 p6
   try clear c7
   try clear c7b0
   try clear c8
   try clear c9
   try clear c9b0
   try clear p10 p10
   try clear q10 q10
   try clear hx10
   try clear c11
   try clear c11b0
   try clear c11b1
   obtain ⟨kq,x7_5,rfl,HA,HJ5,HO_5,HB⟩:=hcut
   cases kq with
   | zero => exact absurd HA.out (by simp [spec_l13Listed.j2])
   | succ kj5 =>
    have H:=HA.out
    clear HA
    simp only [spec_l13Listed.j2] at H
    by_cases c12:x7_5 > 3
    ·rw [if_pos c12] at H
     have c12b0:decide (3 < x7_5) = true:=decide_eq_true c12
     clear c12
     replace H:=Option.bind_eq_some_iff.mp H
     obtain ⟨t295,A130,H⟩:=H
     have A13:=Aside0.mk A130
     clear A130
     by_cases c14:3 + t295.size ≤ 9223372036854775807
     rotate_left
     ·rw [if_neg c14] at H
      exact absurd H (by simp)
     rw [if_pos c14] at H
     have c14b0:=eq_true c14
     have c14b1:decide (3 + t295.size ≤ 9223372036854775807) = true:=decide_eq_true c14
     try have c14b2:(9223372036854775807 < 3 + t295.size) = False:=eq_false (Nat.not_lt.2 c14)
     by_cases c15:x5_1.length < 8796093022208
     rotate_left
     ·rw [if_neg c15] at H
      exact absurd H (by simp)
     rw [if_pos c15] at H
     have LMc15:=Aside0.mk c15
     clear c15
     obtain ⟨y296,hy296⟩:∃ y_:List ByteArray,y_ = (x5_1 ++ [(⟨#[100,115,32]⟩:ByteArray) ++ t295]):=⟨_,rfl⟩
     replace H:(spec_l13Listed.l0 kj5 a0 a1 y296 (wrap64 (x6_1 + x7_5))) = some r:=by first | (rw [hy296];with_reducible exact H) | (have H2_:=(Option.bind_some _ _).symm.trans H;rw [hy296];with_reducible exact H2_) | (have H2_:=(Option.bind_some _ _).symm.trans H;with_reducible exact H2_) | with_reducible exact H | (rw [hy296];exact H) | exact H
     have Ny296:=Aside0.mk hy296
     clear hy296
     have H':=Aside0.mk H
     clear H
     go_wp2_with (first | ((with_reducible refine gate_callee (f:=71) rfl ?_);refine goesL_ (some 36) rfl rfl Tryz.func71 (by kernel_rfl) rfl #[.int .i64 x7_5] rfl q46_ ?_;(with_reducible refine (spec_l1Dec.calls kj5 x7_5 t295 _ A13.out).mono ?_);rintro e w16 ⟨rfl,hb⟩;refine ⟨_,rfl,?_⟩;have n0_:=Aside0.mk (Kd.R_below q82_ hb);have n1_:=Aside0.mk (below_step q50_ hb);clear HO_5;clear HB;have HO_5:=n0_;have HB:=n1_;clear n0_ n1_;(try clear hb)) | ((with_reducible refine gate_builtin (b:=.append) (xs:=#[.tmp 34,.tmp 38]) rfl ?_);at_builtin;refine Kd.R_append Kd.string (w0:=w) w.heap.size rfl (.tmp 34) (.tmp 38) 47 9 (.string ⟨#[]⟩) 16 rfl Tryz.underlying47 info9 rfl (by decide) (by omega) u5 x5_1 ((⟨#[100,115,32]⟩:ByteArray) ++ t295) [.string ((⟨#[100,115,32]⟩:ByteArray) ++ t295)] (fun _ => True) (fun _ => False) rfl rfl ?aP (fun _ hk => hk.elim) ?aF ?aO ?aB ?aS ?aL ?_;(case aP => exact rfl);(case aB => exact q50_);(case aF => exact (fun _ _ => trivial));(case aO => exact q82_);(case aS => exact (below_size q50_));(case aL => have:=LMc15.out;omega);intro v297 w17 ho hb hg hat;rw [← Ny296.out] at ho;have n0_:=Aside0.mk (hb);have n1_:=Aside0.mk (ho);clear HB;clear HO_5;have HB:=n0_;have HO298:=n1_;clear n0_ n1_;clear ho hb hg hat))
     go_roundg kj5
     case measure => have:=HK1.out;have:=HJ5.out;omega
     case rel => exact ⟨(y296),(wrap64 (x6_1 + x7_5)),q69_,H',⟨by have:=HK1.out;have:=HJ5.out;omega⟩,⟨by (with_reducible repeat (first | apply Kd.R_alloc | apply Kd.R_drewN | apply Kd.R_drew));exact HO298.out⟩,⟨q50_⟩⟩
    rw [if_neg c12] at H
    have c12b0:decide (3 < x7_5) = false:=decide_eq_false c12
    clear c12
    replace H:=Option.bind_eq_some_iff.mp H
    obtain ⟨⟨t299,t300,t301,t302⟩,A180,H⟩:=H
    replace H:(if t302 > 0 then ((spec_l13Line.f kj5 t299 t300 t301 (wrap64 (a1 + x6_1)) t302).bind fun t304 => (spec_l13Listed.j3 kj5 a0 a1 x5_1 x6_1 t302 t304)) else (spec_l13Listed.j3 kj5 a0 a1 x5_1 x6_1 t302 (⟨#[]⟩:ByteArray))) = some r:=H
    have A18:=Aside0.mk A180
    clear A180
    have HC19:=Aside0.mk H
    clear H
    go_upto_if 50 with (first | ((with_reducible refine gate_callee (f:=24) rfl ?_);refine goesL_ (some 46) rfl rfl Tryz.func24 (by kernel_rfl) rfl #[.string a0,.int .i64 x6_1] rfl q46_ ?_;(with_reducible refine (spec_ReadIns.calls kj5 a0 x6_1 t299 t300 t301 t302 _ A18.out).mono ?_);rintro e w20 ⟨rfl,hb⟩;refine ⟨_,rfl,?_⟩;have n0_:=Aside0.mk (Kd.R_below q82_ hb);have n1_:=Aside0.mk (below_step q50_ hb);clear HO_5;clear HB;have HO_5:=n0_;have HB:=n1_;clear n0_ n1_;(try clear hb)) | ((with_reducible refine gate_dst (N:=8) rfl ?_);refine box_event ?hg (N:=8) ?hd (cs:=#[.int .i64 0,.bool false,.int .i64 0]) (t:=30) ?hr ?_;(case hd => rfl);(case hg => rfl);(case hr => exact q114_);intro gb303 hg w21 hbox hb;have n0_:=Aside0.mk (Kd.R_below q82_ hb);have n1_:=Aside0.mk (below_step q50_ hb);have n2_:=Aside0.mk (hbox);have n3_:=Aside0.mk ((q28_:w.heap.size ≤ gb303));have n4_:=Aside0.mk ((q28_:w.heap.size ≤ gb303));clear HO_5;clear HB;have HO_5:=n0_;have HB:=n1_;have BK303:=n2_;have GW303:=n3_;have GE303:=n4_;clear n0_ n1_ n2_ n3_ n4_;clear hb hbox hg;have hcz22_0:w21.cell? ⟨gb303,0,none⟩ = some (.int .i64 0):=(blk_cell BK303.out 0).trans rfl;have hcz22_1:w21.cell? ⟨gb303,1,none⟩ = some (.bool false):=(blk_cell BK303.out 1).trans rfl;have hcz22_2:w21.cell? ⟨gb303,2,none⟩ = some (.int .i64 0):=(blk_cell BK303.out 2).trans rfl;have hfz22_0:=blk_frozen BK303.out 0;have hfz22_1:=blk_frozen BK303.out 1;have hfz22_2:=blk_frozen BK303.out 2))
    (try simp only [Act.put,List.setIfInBounds_toArray,List.set_cons_zero,List.set_cons_succ])
    go_cut [10] (fun v10 wc => ∃ (kq:Nat) (x10_18:ByteArray),v10 = .string x10_18 ∧ Aside0 (spec_l13Listed.j3 kq a0 a1 x5_1 x6_1 t302 x10_18 = some r) ∧ Aside0 (kq ≤ kj5) ∧ Aside0 (Kd.R Kd.string 9 wc w.heap.size (fun _ => True) u5 x5_1) ∧ Aside0 (wc.heap[gb303]? = some (.cells #[.int .i64 t299,.bool t300,.int .i64 t301] 30 (0,0))) ∧ Aside0 (Below w.heap.size w wc))
    case first =>
     have H:=HC19.out
     clear HC19
     by_cases c23:t302 > 0
     ·rw [if_pos c23] at H
      have c23b0:decide (0 < t302) = true:=decide_eq_true c23
      clear c23
      (first | rw [c23b0] | (simp only [i64_w,i32_w];rw [c23b0]) | skip)
      replace H:=Option.bind_eq_some_iff.mp H
      obtain ⟨t304,A240,H⟩:=H
      have A24:=Aside0.mk A240
      clear A240
      have H':=Aside0.mk H
      clear H
      have hcz25_0:w21.cell? ⟨gb303,0,none⟩ = some (.int .i64 0):=bz_ BK303 0
      have hcz25_1:w21.cell? ⟨gb303,1,none⟩ = some (.bool false):=bz_ BK303 1
      have hcz25_2:w21.cell? ⟨gb303,2,none⟩ = some (.int .i64 0):=bz_ BK303 2
      have hfz25_0:=blk_frozen BK303.out 0
      have hfz25_1:=blk_frozen BK303.out 1
      have hfz25_2:=blk_frozen BK303.out 2
      go_wp2_with (first | ((with_reducible refine gate_callee (f:=126) rfl ?_);refine goesL_ (some 56) rfl rfl Tryz.func126 (by kernel_rfl) rfl #[.agg #[.int .i64 t299,.bool t300,.int .i64 t301],.int .i64 (wrap64 (a1 + x6_1)),.int .i64 t302] rfl (by (try simp only [List.map_toArray,List.map_cons,List.map_nil]);first | done | rfl | (simp only [List.length_drop,List.length_take];rfl) | (refine Eq.trans (b:=#[.agg #[.int .i64 t299,.bool t300,.int .i64 t301],.int .i64 ((a1 + x6_1)),.int .i64 t302]) rfl ?_;simp [wrap64] <;> omega)) ?_;(with_reducible refine (spec_l13Line.calls kj5 t299 t300 t301 (wrap64 (a1 + x6_1)) t302 t304 _ A24.out).mono ?_);rintro e w26 ⟨rfl,hb⟩;refine ⟨_,rfl,?_⟩;have n0_:=Aside0.mk (Kd.R_below (by (with_reducible repeat (first | apply Kd.R_alloc | apply Kd.R_drewN | apply Kd.R_drew));exact (Kd.R_mono (Kd.R_far (p:=⟨gb303,2,none⟩) (Kd.R_far (p:=⟨gb303,1,none⟩) (Kd.R_far (p:=⟨gb303,0,none⟩) (Kd.R_types HO_5.out BK303.out (by decide)) (fun _ hk => hk.2) (.int .i64 t299)) (fun _ hk => hk.2) (.bool t300)) (fun _ hk => hk.2) (.int .i64 t301)) (fun _ h_ => h_.1))) hb);have n1_:=Aside0.mk (blk_below (g:=gb303) (o:=.cells #[.int .i64 t299,.bool t300,.int .i64 t301] 30 (0,0)) q0_ hb);have n2_:=Aside0.mk (below_step q33_ hb);clear HO_5;clear BK303;clear HB;have HO_5:=n0_;have BK303:=n1_;have HB:=n2_;clear n0_ n1_ n2_;(try clear hb)))
      go_meet
      case rel => exact ⟨_,(t304),q69_,H',⟨by have:=HK1.out;have:=HJ5.out;first | omega | exact Nat.le_refl _⟩,⟨q82_⟩,⟨q59_⟩,⟨q33_⟩⟩
     rw [if_neg c23] at H
     have c23b0:decide (0 < t302) = false:=decide_eq_false c23
     clear c23
     (first | rw [c23b0] | (simp only [i64_w,i32_w];rw [c23b0]) | skip)
     have H':=Aside0.mk H
     clear H
     go_wp2
     go_meet
     case rel => exact ⟨_,((⟨#[]⟩:ByteArray)),q69_,H',⟨by have:=HK1.out;have:=HJ5.out;first | omega | exact Nat.le_refl _⟩,⟨by (with_reducible repeat (first | apply Kd.R_alloc | apply Kd.R_drewN | apply Kd.R_drew));exact Kd.R_mono (Kd.R_far (p:=⟨gb303,2,none⟩) (Kd.R_far (p:=⟨gb303,1,none⟩) (Kd.R_far (p:=⟨gb303,0,none⟩) (Kd.R_types HO_5.out BK303.out (by decide)) (fun _ hk => hk.2) (.int .i64 t299)) (fun _ hk => hk.2) (.bool t300)) (fun _ hk => hk.2) (.int .i64 t301)) (fun _ hk => trivial)⟩,⟨q0_⟩,⟨q33_⟩⟩
    clear HC19
    try clear c1
    try clear p1 p1
    try clear q1 q1
    try clear hx1
    try clear c2
    try clear p2 p2
    try clear c5
    try clear c5b0
    try clear p6 p6
    try clear c7
    try clear c7b0
    try clear c8
    try clear c9
    try clear c9b0
    try clear p10 p10
    try clear q10 q10
    try clear hx10
    try clear c11
    try clear c11b0
    try clear c11b1
    try clear c12
    try clear c12b0
    try clear c14
    try clear c14b0
    try clear c14b1
    try clear c14b2
    try clear c15
    try clear c23
    try clear c23b0
    try clear c24
    try clear hcz22_0 hcz22_1 hcz22_2
    try clear hcz25_0 hcz25_1 hcz25_2
    try clear hfz22_0 hfz22_1 hfz22_2
    try clear hfz25_0 hfz25_1 hfz25_2
    obtain ⟨kq,x10_18,rfl,HA,HJ18,HO_5,BK303,HB⟩:=hcut
    cases kq with
    | zero => exact absurd HA.out (by simp [spec_l13Listed.j3])
    | succ kj18 =>
     have H:=HA.out
     clear HA
     simp only [spec_l13Listed.j3] at H
     by_cases c27:x10_18.toList = ([]:List UInt8)
     ·rw [if_pos c27] at H
      have c27b0:(x10_18.toList == ([]:List UInt8)) = true:=beq_iff_eq.mpr c27
      have c27b1:(x10_18.toList != ([]:List UInt8)) = false:=bne_eq_false_iff_eq.mpr c27
      clear c27
      by_cases c28:0 ≤ x6_1
      rotate_left
      ·rw [if_neg c28] at H
       exact absurd H (by simp)
      rw [if_pos c28] at H
      have c28b0:decide (0 ≤ x6_1) = true:=decide_eq_true c28
      clear c28
      by_cases c29:x6_1 < (a0.size:Int)
      rotate_left
      ·rw [if_neg c29] at H
       exact absurd H (by simp)
      rw [if_pos c29] at H
      have c29b0:decide (x6_1 < (a0.size:Int)) = true:=decide_eq_true c29
      clear c29
      replace H:=Option.bind_eq_some_iff.mp H
      obtain ⟨t305,A310,H⟩:=H
      have A31:=Aside0.mk A310
      clear A310
      by_cases c32:3 + t305.size ≤ 9223372036854775807
      rotate_left
      ·rw [if_neg c32] at H
       exact absurd H (by simp)
      rw [if_pos c32] at H
      have c32b0:=eq_true c32
      have c32b1:decide (3 + t305.size ≤ 9223372036854775807) = true:=decide_eq_true c32
      try have c32b2:(9223372036854775807 < 3 + t305.size) = False:=eq_false (Nat.not_lt.2 c32)
      by_cases c33:x5_1.length < 8796093022208
      rotate_left
      ·rw [if_neg c33] at H
       exact absurd H (by simp)
      rw [if_pos c33] at H
      have LMc33:=Aside0.mk c33
      clear c33
      obtain ⟨y306,hy306⟩:∃ y_:List ByteArray,y_ = (x5_1 ++ [(⟨#[100,98,32]⟩:ByteArray) ++ t305]):=⟨_,rfl⟩
      replace H:(spec_l13Listed.l0 kj18 a0 a1 y306 (wrap64 (x6_1 + 1))) = some r:=by first | (rw [hy306];with_reducible exact H) | (have H2_:=(Option.bind_some _ _).symm.trans H;rw [hy306];with_reducible exact H2_) | (have H2_:=(Option.bind_some _ _).symm.trans H;with_reducible exact H2_) | with_reducible exact H | (rw [hy306];exact H) | exact H
      have Ny306:=Aside0.mk hy306
      clear hy306
      have H':=Aside0.mk H
      clear H
      have p30:0 ≤ (x6_1:Int):=of_decide_eq_true q86_
      have q30:x6_1 < (a0.size:Int):=of_decide_eq_true q86_
      have hx30:=bt_at a0 x6_1
      replace p30:=eq_true p30
      replace q30:=eq_true q30
      go_wp2_with (first | ((with_reducible refine gate_callee (f:=70) rfl ?_);refine goesL_ (some 63) rfl rfl Tryz.func70 (by kernel_rfl) rfl #[.int .i64 (wrap64 (bt a0 x6_1)),.int .i64 2] rfl (by (try simp only [List.map_toArray,List.map_cons,List.map_nil]);first | done | rfl | (simp only [List.length_drop,List.length_take];rfl) | (refine Eq.trans (b:=#[.int .i64 ((bt a0 x6_1)),.int .i64 2]) rfl ?_;simp [wrap64] <;> omega)) ?_;(with_reducible refine (spec_HexOf.calls kj18 (wrap64 (bt a0 x6_1)) 2 t305 _ A31.out).mono ?_);rintro e w' ⟨rfl,⟨nd,rfl⟩⟩;refine ⟨_,rfl,?_⟩) | ((with_reducible refine gate_builtin (b:=.append) (xs:=#[.tmp 65,.tmp 67]) rfl ?_);at_builtin;refine Kd.R_append Kd.string (w0:=w) w.heap.size rfl (.tmp 65) (.tmp 67) 47 9 (.string ⟨#[]⟩) 16 rfl Tryz.underlying47 info9 rfl (by decide) (by omega) u5 x5_1 ((⟨#[100,98,32]⟩:ByteArray) ++ t305) [.string ((⟨#[100,98,32]⟩:ByteArray) ++ t305)] (fun _ => True) (fun _ => False) rfl rfl ?aP (fun _ hk => hk.elim) ?aF ?aO ?aB ?aS ?aL ?_;(case aP => exact rfl);(case aB => exact q33_);(case aF => exact (fun _ _ => trivial));(case aO => exact q82_);(case aS => exact (below_size q33_));(case aL => have:=LMc33.out;omega);intro v307 w34 ho hb hg hat;rw [← Ny306.out] at ho;have n0_:=Aside0.mk (blk_grown (g:=gb303) (o:=.cells #[.int .i64 t299,.bool t300,.int .i64 t301] 30 (0,0)) q59_ hg (Kd.R_ne HO_5.out BK303.out (by decide)));have n1_:=Aside0.mk (hb);have n2_:=Aside0.mk (ho);clear BK303;clear HB;clear HO_5;have BK303:=n0_;have HB:=n1_;have HO308:=n2_;clear n0_ n1_ n2_;clear ho hb hg hat))
      go_roundg kj18
      case measure => have:=HK1.out;have:=HJ5.out;have:=HJ18.out;omega
      case rel => exact ⟨(y306),(wrap64 (x6_1 + 1)),q69_,H',⟨by have:=HK1.out;have:=HJ5.out;have:=HJ18.out;omega⟩,⟨by (with_reducible repeat (first | apply Kd.R_alloc | apply Kd.R_drewN | apply Kd.R_drew));exact HO308.out⟩,⟨q33_⟩⟩
     rw [if_neg c27] at H
     have c27b0:(x10_18.toList == ([]:List UInt8)) = false:=beq_eq_false_iff_ne.mpr c27
     have c27b1:(x10_18.toList != ([]:List UInt8)) = true:=bne_iff_ne.mpr c27
     by_cases c35:x5_1.length < 8796093022208
     rotate_left
     ·rw [if_neg c35] at H
      exact absurd H (by simp)
     rw [if_pos c35] at H
     have LMc35:=Aside0.mk c35
     clear c35
     obtain ⟨y309,hy309⟩:∃ y_:List ByteArray,y_ = (x5_1 ++ [x10_18]):=⟨_,rfl⟩
     replace H:(spec_l13Listed.l0 kj18 a0 a1 y309 (wrap64 (x6_1 + t302))) = some r:=by first | (rw [hy309];with_reducible exact H) | (have H2_:=(Option.bind_some _ _).symm.trans H;rw [hy309];with_reducible exact H2_) | (have H2_:=(Option.bind_some _ _).symm.trans H;with_reducible exact H2_) | with_reducible exact H | (rw [hy309];exact H) | exact H
     have Ny309:=Aside0.mk hy309
     clear hy309
     have H':=Aside0.mk H
     clear H
     go_wp2_with (first | ((with_reducible refine gate_builtin (b:=.append) (xs:=#[.tmp 65,.tmp 67]) rfl ?_);at_builtin;refine Kd.R_append Kd.string (w0:=w) w.heap.size rfl (.tmp 65) (.tmp 67) 47 9 (.string ⟨#[]⟩) 16 rfl Tryz.underlying47 info9 rfl (by decide) (by omega) u5 x5_1 x10_18 [.string x10_18] (fun _ => True) (fun _ => False) rfl rfl ?aP (fun _ hk => hk.elim) ?aF ?aO ?aB ?aS ?aL ?_;(case aP => exact rfl);(case aB => exact q33_);(case aF => exact (fun _ _ => trivial));(case aO => exact q82_);(case aS => exact (below_size q33_));(case aL => have:=LMc35.out;omega);intro v310 w36 ho hb hg hat;rw [← Ny309.out] at ho;have n0_:=Aside0.mk (blk_grown (g:=gb303) (o:=.cells #[.int .i64 t299,.bool t300,.int .i64 t301] 30 (0,0)) q59_ hg (Kd.R_ne HO_5.out BK303.out (by decide)));have n1_:=Aside0.mk (hb);have n2_:=Aside0.mk (ho);clear BK303;clear HB;clear HO_5;have BK303:=n0_;have HB:=n1_;have HO311:=n2_;clear n0_ n1_ n2_;clear ho hb hg hat))
     go_roundg kj18
     case measure => have:=HK1.out;have:=HJ5.out;have:=HJ18.out;omega
     case rel => exact ⟨(y309),(wrap64 (x6_1 + t302)),q69_,H',⟨by have:=HK1.out;have:=HJ5.out;have:=HJ18.out;omega⟩,⟨by (with_reducible repeat (first | apply Kd.R_alloc | apply Kd.R_drewN | apply Kd.R_drew));exact HO311.out⟩,⟨q33_⟩⟩
  rw [if_neg c5] at H
  have c5b0:decide (x6_1 < (a0.size:Int)) = false:=decide_eq_false c5
  clear c5
  obtain rfl:=Option.some.inj H
  go_wp2
  go_ret
  exact ⟨_,q53_,q82_,q50_⟩
end Go.Proofs.YtodlnnoekccmmaaGreatDoor.QFnExactListed
