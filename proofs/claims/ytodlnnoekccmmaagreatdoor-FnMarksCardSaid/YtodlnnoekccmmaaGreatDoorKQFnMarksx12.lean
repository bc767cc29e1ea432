/- The machine's side of a law,written by a program of this session for this claim. -/
import Derived.Test.YtodlnnoekccmmaaGreatDoorKQq
import Derived.Test.YtodlnnoekccmmaaGreatDoorKQFnMarksx0
import Derived.Test.YtodlnnoekccmmaaGreatDoorKQFnMarksx7
import Derived.Test.YtodlnnoekccmmaaGreatDoorKQFnMarksx8
import Derived.Test.YtodlnnoekccmmaaGreatDoorKQFnMarksx10
import Derived.Test.YtodlnnoekccmmaaGreatDoorKQFnMarksx11
namespace Go.Proofs.YtodlnnoekccmmaaGreatDoor.QFnMarks
open Go.Proofs.YtodlnnoekccmmaaGreatDoor.Qq
open Go.RowKit Go.Proofs.YtodlnnoekccmmaaGreatDoor.LibX Go.Proofs.YtodlnnoekccmmaaGreatDoor.LibE Go.Proofs.YtodlnnoekccmmaaGreatDoor.LibCB Go.Proofs.YtodlnnoekccmmaaGreatDoorW.PrintWords Go.Proofs.YtodlnnoekccmmaaGreatDoorW.PrintLast Go.Proofs.YtodlnnoekccmmaaGreatDoorW.PrintMore
attribute [local go_sem] max2_int min2_int max_two min_two max_three min_three max_four min_four   -- for this text's walks alone
set_option maxHeartbeats 8000000
set_option maxRecDepth 100000
set_option linter.unusedVariables false
set_option linter.unusedSimpArgs false
mutual
def spec_l13Next.j0:Nat → Int → Int → Int → Int → Int → Int → Bool → Int → Option (List Int)
 | 0,_,_,_,_,_,_,_,_ => none
 | k + 1,x1,x3,x9,x10,x11,x418000,x418001,x418002 => (some (([]:List Int):List Int)).bind fun y418 => (if x418000 = 195 then (spec_l13Next.j1 k x1 x3 x9 x10 x11 y418 true x418000 x418001 x418002) else (if x418000 = 24 then (spec_l13Next.j1 k x1 x3 x9 x10 x11 y418 true x418000 x418001 x418002) else (if x418000 = 201 then (spec_l13Next.j1 k x1 x3 x9 x10 x11 y418 true x418000 x418001 x418002) else (if x418000 = 217 then (spec_l13Next.j1 k x1 x3 x9 x10 x11 y418 true x418000 x418001 x418002) else (spec_l13Next.j1 k x1 x3 x9 x10 x11 y418 (x418000 == 233) x418000 x418001 x418002)))))
def spec_l13Next.j1:Nat → Int → Int → Int → Int → Int → List Int → Bool → Int → Bool → Int → Option (List Int)
 | 0,_,_,_,_,_,_,_,_,_,_ => none
 | k + 1,x1,x3,x9,x10,x11,x12,x13,x418000,x418001,x418002 => if x418001 = true then (spec_l13Next.j2 k x1 x3 x9 x10 x11 x12 true x418000 x418001 x418002) else (spec_l13Next.j2 k x1 x3 x9 x10 x11 x12 (!x13) x418000 x418001 x418002)
def spec_l13Next.j2:Nat → Int → Int → Int → Int → Int → List Int → Bool → Int → Bool → Int → Option (List Int)
 | 0,_,_,_,_,_,_,_,_,_,_ => none
 | k + 1,x1,x3,x9,x10,x11,x12,x53,x418000,x418001,x418002 => if x53 = true then (if x12.length < 17592186044416 then (spec_l13Next.j3 k x3 x9 x10 x11 (x12 ++ [wrap64 (x1 + x3)]) x418000 x418001 x418002) else (none)) else (spec_l13Next.j3 k x3 x9 x10 x11 x12 x418000 x418001 x418002)
def spec_l13Next.j3:Nat → Int → Int → Int → Int → List Int → Int → Bool → Int → Option (List Int)
 | 0,_,_,_,_,_,_,_,_ => none
 | k + 1,x3,x9,x10,x11,x12,x418000,x418001,x418002 => (spec_l3Template.f k x418000 x418001).bind fun t424 => ((spec_l3Hole.f k t424).bind fun bt425 => (if bt425.2.toList = ([101,56]:List UInt8) then (spec_l13Next.j4 k x3 x9 x10 x11 x12 bt425.2 (-1) (decide (x418000 < 64)) x418000 x418001 x418002) else (spec_l13Next.j4 k x3 x9 x10 x11 x12 bt425.2 (-1) false x418000 x418001 x418002)))
def spec_l13Next.j8:Nat → Int → List Int → Int → Option (List Int)
 | 0,_,_,_ => none
 | k + 1,x9,x12,x17 => (spec_l1In.f x17 0 255).bind fun t428 => (if t428 = true then (if x12.length < 17592186044416 then (some (x12 ++ [x17])) else (none)) else ((spec_l1In.f x17 256 511).bind fun t432 => (if t432 = true then (if x9 > 0 then (if x12.length < 17592186044416 then (some (x12 ++ [wrap64 ((wrap64 ((wrap64 (x9 * 256)) + x17)) - 256)])) else (none)) else (some x12)) else (some x12))))
def spec_l13Next.j4:Nat → Int → Int → Int → Int → List Int → ByteArray → Int → Bool → Int → Bool → Int → Option (List Int)
 | 0,_,_,_,_,_,_,_,_,_,_,_ => none
 | k + 1,x3,x9,x10,x11,x12,x16,x17,x70,x418000,x418001,x418002 => if x70 = true then ((spec_SignedOf.f x418002).bind fun t427 => (spec_l13Next.j8 k x9 x12 (wrap64 ((wrap64 ((wrap64 (x11 + x10)) + x3)) + t427)))) else (if x16.toList = ([110,49,54]:List UInt8) then (if x418000 ≥ 192 then (spec_l13Next.j5 k x9 x12 x17 ((Int.tmod x418000 8) != 2) x418000 x418001 x418002) else (spec_l13Next.j5 k x9 x12 x17 false x418000 x418001 x418002)) else (spec_l13Next.j5 k x9 x12 x17 false x418000 x418001 x418002))
def spec_l13Next.j5:Nat → Int → List Int → Int → Bool → Int → Bool → Int → Option (List Int)
 | 0,_,_,_,_,_,_,_ => none
 | k + 1,x9,x12,x17,x87,x418000,x418001,x418002 => if x87 = true then (spec_l13Next.j6 k x9 x12 x17 x87 x418000 x418001 x418002) else (if x418000 ≥ 194 then (if (Int.tmod x418000 8) = 2 then (if x418000 < 224 then (spec_l13Next.j6 k x9 x12 x17 (!x418001) x418000 x418001 x418002) else (spec_l13Next.j6 k x9 x12 x17 false x418000 x418001 x418002)) else (spec_l13Next.j6 k x9 x12 x17 false x418000 x418001 x418002)) else (spec_l13Next.j6 k x9 x12 x17 false x418000 x418001 x418002))
def spec_l13Next.j6:Nat → Int → List Int → Int → Bool → Int → Bool → Int → Option (List Int)
 | 0,_,_,_,_,_,_,_ => none
 | k + 1,x9,x12,x17,x87,x418000,x418001,x418002 => if x87 = true then (spec_l13Next.j8 k x9 x12 x418002) else (if x418000 ≥ 192 then (if (Int.tmod x418000 8) = 7 then (spec_l13Next.j7 k x9 x12 x17 (!x418001) x418000 x418001 x418002) else (spec_l13Next.j7 k x9 x12 x17 false x418000 x418001 x418002)) else (spec_l13Next.j7 k x9 x12 x17 false x418000 x418001 x418002))
def spec_l13Next.j7:Nat → Int → List Int → Int → Bool → Int → Bool → Int → Option (List Int)
 | 0,_,_,_,_,_,_,_ => none
 | k + 1,x9,x12,x17,x122,x418000,x418001,x418002 => if x122 = true then (spec_l13Next.j8 k x9 x12 (wrap64 ((Int.tmod (wrap64 (Int.tdiv x418000 8)) 8) * 8))) else (spec_l13Next.j8 k x9 x12 x17)
end
def spec_l13Next.f (k:Nat) (a0:ByteArray) (a1:Int) (a2_0:Int) (a2_1:Bool) (a2_2:Int) (a3:Int):Option (List Int):=if (wrap64 (Int.tdiv a1 256)) > 0 then (spec_l13Next.j0 k a1 a3 (wrap64 (Int.tdiv a1 256)) (Int.tmod a1 256) 256 a2_0 a2_1 a2_2) else (spec_l13Next.j0 k a1 a3 (wrap64 (Int.tdiv a1 256)) (Int.tmod a1 256) 0 a2_0 a2_1 a2_2)
theorem spec_l13Next.calls (k:Nat) (a0:ByteArray) (a1:Int) (a2_0:Int) (a2_1:Bool) (a2_2:Int) (a3:Int) (r:List Int) (w:World) (h:spec_l13Next.f k a0 a1 a2_0 a2_1 a2_2 a3 = some r) :
  Calls Tryz.prog 77 #[.string a0,.int .i64 a1,.agg #[.int .i64 a2_0,.bool a2_1,.int .i64 a2_2],.int .i64 a3] w fun e w' => ∃ v0_:Value,e = .returned (v0_) ∧ Kd.R (Kd.int .i64) 2 w' w.heap.size (fun _ => True) v0_ r ∧ Below w.heap.size w w':=by
 have hu30:=Tryz.underlying30
 have HB:=Aside0.mk (Below.refl w.heap.size w)
 have H:=h;unfold spec_l13Next.f at H
 clear h
 have HC5:=Aside0.mk H
 clear H
 go_enter Tryz.func77,Tryz.ntmps77
 go_upto_if 23 with (first | ((with_reducible refine gate_dst (N:=6) rfl ?_);refine box_event ?hg (N:=6) ?hd (cs:=#[.int .i64 a2_0,.bool a2_1,.int .i64 a2_2]) (t:=30) ?hr ?_;(case hd => rfl);(case hg => rfl);(case hr => exact q153_);intro gb417 hg w6 hbox hb;have n0_:=Aside0.mk (below_step q70_ hb);have n1_:=Aside0.mk (hbox);have n2_:=Aside0.mk ((q46_:w.heap.size ≤ gb417));have n3_:=Aside0.mk ((q46_:w.heap.size ≤ gb417));clear HB;have HB:=n0_;have BK417:=n1_;have GW417:=n2_;have GE417:=n3_;clear n0_ n1_ n2_ n3_;clear hb hbox hg))
 (try simp only [Act.put,List.setIfInBounds_toArray,List.set_cons_zero,List.set_cons_succ])
 go_cut [11] (fun v11 wc => ∃ (kq:Nat) (x11_4:Int),v11 = .int .i64 x11_4 ∧ Aside0 (spec_l13Next.j0 kq a1 a3 (wrap64 (Int.tdiv a1 256)) (Int.tmod a1 256) x11_4 a2_0 a2_1 a2_2 = some r) ∧ Aside0 (kq ≤ k) ∧ Aside0 (wc.heap[gb417]? = some (.cells #[.int .i64 a2_0,.bool a2_1,.int .i64 a2_2] 30 (0,0))) ∧ Aside0 (Below w.heap.size w wc))
 case first =>
  as_aux_lemma =>
   have H:=HC5.out
   clear HC5
   by_cases c7:(wrap64 (Int.tdiv a1 256)) > 0
   ·rw [if_pos c7] at H
    have c7b0:decide (0 < (wrap64 (Int.tdiv a1 256))) = true:=decide_eq_true c7
    clear c7
    (first | rw [c7b0] | (simp only [i64_w,i32_w];rw [c7b0]) | skip)
    have H':=Aside0.mk H
    clear H
    go_wp2
    go_meet
    case rel => exact ⟨_,(256),q94_,H',⟨q132_⟩,⟨q80_⟩,⟨q49_⟩⟩
   rw [if_neg c7] at H
   have c7b0:decide (0 < (wrap64 (Int.tdiv a1 256))) = false:=decide_eq_false c7
   clear c7
   (first | rw [c7b0] | (simp only [i64_w,i32_w];rw [c7b0]) | skip)
   have H':=Aside0.mk H
   clear H
   go_wp2
   go_meet
   case rel => exact ⟨_,(0),q94_,H',⟨q132_⟩,⟨q80_⟩,⟨q49_⟩⟩
 clear HC5
 try clear p2
 try clear p6
 try clear c7
 try clear c7b0
 obtain ⟨kq,x11_4,rfl,HA,HJ4,BK417,HB⟩:=hcut
 cases kq with
 | zero => exact absurd HA.out (by simp [spec_l13Next.j0])
 | succ kj4 =>
  have H:=HA.out
  clear HA
  simp only [spec_l13Next.j0] at H
  obtain ⟨y418,hy418⟩:∃ y_:List Int,y_ = (([]:List Int)):=⟨_,rfl⟩
  replace H:(if a2_0 = 195 then (spec_l13Next.j1 kj4 a1 a3 (wrap64 (Int.tdiv a1 256)) (Int.tmod a1 256) x11_4 y418 true a2_0 a2_1 a2_2) else (if a2_0 = 24 then (spec_l13Next.j1 kj4 a1 a3 (wrap64 (Int.tdiv a1 256)) (Int.tmod a1 256) x11_4 y418 true a2_0 a2_1 a2_2) else (if a2_0 = 201 then (spec_l13Next.j1 kj4 a1 a3 (wrap64 (Int.tdiv a1 256)) (Int.tmod a1 256) x11_4 y418 true a2_0 a2_1 a2_2) else (if a2_0 = 217 then (spec_l13Next.j1 kj4 a1 a3 (wrap64 (Int.tdiv a1 256)) (Int.tmod a1 256) x11_4 y418 true a2_0 a2_1 a2_2) else (spec_l13Next.j1 kj4 a1 a3 (wrap64 (Int.tdiv a1 256)) (Int.tmod a1 256) x11_4 y418 (a2_0 == 233) a2_0 a2_1 a2_2))))) = some r:=by first | (rw [hy418];exact H) | exact H
  have Ny418:=Aside0.mk hy418
  clear hy418
  have HC8:=Aside0.mk H
  clear H
  go_upto_region 7 with (first | ((with_reducible refine gate_dst (N:=24) rfl ?_);refine Kd.R_lit (Kd.int .i64) _ 2 ?hg (N:=24) ?hd (xs:=([]:List Int)) (inner:=[]) (ok:=fun _ => True) (okp:=fun _ => True) ?hr ?hp (fun _ hk => hk) trivial (Below.refl _ _) (Nat.le_refl _) (by simp) ?_;(case hd => rfl);(case hg => rfl);(case hr => exact q153_);(case hp => exact (Reps.none _ _));intro v419 w9 ho10 hb hg_ hnew_;clear hg_ hnew_;(first | rw [← Ny418.out] at ho10 | (simp only [Int.reduceToNat] at ho10;rw [← Ny418.out] at ho10));have n0_:=Aside0.mk (Kd.R_lower ho10 (below_size q49_));have n1_:=Aside0.mk (blk_below (g:=gb417) (o:=.cells #[.int .i64 a2_0,.bool a2_1,.int .i64 a2_2] 30 (0,0)) q80_ hb);have n2_:=Aside0.mk (below_step q49_ hb);clear BK417;clear HB;have HO420:=n0_;have BK417:=n1_;have HB:=n2_;clear n0_ n1_ n2_;clear hb ho10))
  (try simp only [Act.put,List.setIfInBounds_toArray,List.set_cons_zero,List.set_cons_succ])
  go_cut [13] (fun v13 wc => ∃ (kq:Nat) (x13_7:Bool),v13 = .bool x13_7 ∧ Aside0 (spec_l13Next.j1 kq a1 a3 (wrap64 (Int.tdiv a1 256)) (Int.tmod a1 256) x11_4 y418 x13_7 a2_0 a2_1 a2_2 = some r) ∧ Aside0 (kq ≤ kj4) ∧ Aside0 (Kd.R (Kd.int .i64) 2 wc w.heap.size (fun _ => True) v419 y418) ∧ Aside0 (wc.heap[gb417]? = some (.cells #[.int .i64 a2_0,.bool a2_1,.int .i64 a2_2] 30 (0,0))) ∧ Aside0 (Below w.heap.size w wc))
  case first =>
   as_aux_lemma =>
    have H:=HC8.out
    clear HC8
    by_cases c11:a2_0 = 195
    ·rw [if_pos c11] at H
     have c11b0:(a2_0 == 195) = true:=beq_iff_eq.mpr c11
     have c11b1:(a2_0 != 195) = false:=bne_eq_false_iff_eq.mpr c11
     clear c11
     (first | rw [c11b0] | (simp only [i64_w,i32_w];rw [c11b0]) | skip)
     have H':=Aside0.mk H
     clear H
     have hcz12_0:w9.cell? ⟨gb417,0,none⟩ = some (.int .i64 a2_0):=bz_ BK417 0
     have hcz12_1:w9.cell? ⟨gb417,1,none⟩ = some (.bool a2_1):=bz_ BK417 1
     have hcz12_2:w9.cell? ⟨gb417,2,none⟩ = some (.int .i64 a2_2):=bz_ BK417 2
     have hfz12_0:=blk_frozen BK417.out 0
     have hfz12_1:=blk_frozen BK417.out 1
     have hfz12_2:=blk_frozen BK417.out 2
     go_wp2
     go_meet
     case rel => exact ⟨_,(true),q94_,H',⟨q118_⟩,⟨q106_⟩,⟨q80_⟩,⟨q49_⟩⟩
    rw [if_neg c11] at H
    have c11b0:(a2_0 == 195) = false:=beq_eq_false_iff_ne.mpr c11
    have c11b1:(a2_0 != 195) = true:=bne_iff_ne.mpr c11
    (first | rw [c11b0] | (simp only [i64_w,i32_w];rw [c11b0]) | skip)
    by_cases c13:a2_0 = 24
    ·rw [if_pos c13] at H
     have c13b0:(a2_0 == 24) = true:=beq_iff_eq.mpr c13
     have c13b1:(a2_0 != 24) = false:=bne_eq_false_iff_eq.mpr c13
     clear c13
     have H':=Aside0.mk H
     clear H
     have hcz14_0:w9.cell? ⟨gb417,0,none⟩ = some (.int .i64 a2_0):=bz_ BK417 0
     have hcz14_1:w9.cell? ⟨gb417,1,none⟩ = some (.bool a2_1):=bz_ BK417 1
     have hcz14_2:w9.cell? ⟨gb417,2,none⟩ = some (.int .i64 a2_2):=bz_ BK417 2
     have hfz14_0:=blk_frozen BK417.out 0
     have hfz14_1:=blk_frozen BK417.out 1
     have hfz14_2:=blk_frozen BK417.out 2
     go_wp2
     go_meet
     case rel => exact ⟨_,(true),q94_,H',⟨q118_⟩,⟨q106_⟩,⟨q80_⟩,⟨q49_⟩⟩
    rw [if_neg c13] at H
    have c13b0:(a2_0 == 24) = false:=beq_eq_false_iff_ne.mpr c13
    have c13b1:(a2_0 != 24) = true:=bne_iff_ne.mpr c13
    by_cases c15:a2_0 = 201
    ·rw [if_pos c15] at H
     have c15b0:(a2_0 == 201) = true:=beq_iff_eq.mpr c15
     have c15b1:(a2_0 != 201) = false:=bne_eq_false_iff_eq.mpr c15
     clear c15
     have H':=Aside0.mk H
     clear H
     have hcz16_0:w9.cell? ⟨gb417,0,none⟩ = some (.int .i64 a2_0):=bz_ BK417 0
     have hcz16_1:w9.cell? ⟨gb417,1,none⟩ = some (.bool a2_1):=bz_ BK417 1
     have hcz16_2:w9.cell? ⟨gb417,2,none⟩ = some (.int .i64 a2_2):=bz_ BK417 2
     have hfz16_0:=blk_frozen BK417.out 0
     have hfz16_1:=blk_frozen BK417.out 1
     have hfz16_2:=blk_frozen BK417.out 2
     go_wp2
     go_meet
     case rel => exact ⟨_,(true),q94_,H',⟨q118_⟩,⟨q106_⟩,⟨q80_⟩,⟨q49_⟩⟩
    rw [if_neg c15] at H
    have c15b0:(a2_0 == 201) = false:=beq_eq_false_iff_ne.mpr c15
    have c15b1:(a2_0 != 201) = true:=bne_iff_ne.mpr c15
    by_cases c17:a2_0 = 217
    ·rw [if_pos c17] at H
     have c17b0:(a2_0 == 217) = true:=beq_iff_eq.mpr c17
     have c17b1:(a2_0 != 217) = false:=bne_eq_false_iff_eq.mpr c17
     clear c17
     have H':=Aside0.mk H
     clear H
     have hcz18_0:w9.cell? ⟨gb417,0,none⟩ = some (.int .i64 a2_0):=bz_ BK417 0
     have hcz18_1:w9.cell? ⟨gb417,1,none⟩ = some (.bool a2_1):=bz_ BK417 1
     have hcz18_2:w9.cell? ⟨gb417,2,none⟩ = some (.int .i64 a2_2):=bz_ BK417 2
     have hfz18_0:=blk_frozen BK417.out 0
     have hfz18_1:=blk_frozen BK417.out 1
     have hfz18_2:=blk_frozen BK417.out 2
     go_wp2
     go_meet
     case rel => exact ⟨_,(true),q94_,H',⟨q118_⟩,⟨q106_⟩,⟨q80_⟩,⟨q49_⟩⟩
    rw [if_neg c17] at H
    have c17b0:(a2_0 == 217) = false:=beq_eq_false_iff_ne.mpr c17
    have c17b1:(a2_0 != 217) = true:=bne_iff_ne.mpr c17
    have H':=Aside0.mk H
    clear H
    have hcz19_0:w9.cell? ⟨gb417,0,none⟩ = some (.int .i64 a2_0):=bz_ BK417 0
    have hcz19_1:w9.cell? ⟨gb417,1,none⟩ = some (.bool a2_1):=bz_ BK417 1
    have hcz19_2:w9.cell? ⟨gb417,2,none⟩ = some (.int .i64 a2_2):=bz_ BK417 2
    have hfz19_0:=blk_frozen BK417.out 0
    have hfz19_1:=blk_frozen BK417.out 1
    have hfz19_2:=blk_frozen BK417.out 2
    go_wp2
    go_meet
    case rel => exact ⟨_,((a2_0 == 233)),q94_,H',⟨q118_⟩,⟨q106_⟩,⟨q80_⟩,⟨q49_⟩⟩
  clear HC8
  try clear c1
  try clear p2 p2
  try clear p6 p6
  try clear c7
  try clear c7b0
  try clear c11
  try clear c11b0
  try clear c11b1
  try clear c13
  try clear c13b0
  try clear c13b1
  try clear c15
  try clear c15b0
  try clear c15b1
  try clear c17
  try clear c17b0
  try clear c17b1
  try clear hcz12_0 hcz12_1 hcz12_2
  try clear hcz14_0 hcz14_1 hcz14_2
  try clear hcz16_0 hcz16_1 hcz16_2
  try clear hcz18_0 hcz18_1 hcz18_2
  try clear hcz19_0 hcz19_1 hcz19_2
  try clear hfz12_0 hfz12_1 hfz12_2
  try clear hfz14_0 hfz14_1 hfz14_2
  try clear hfz16_0 hfz16_1 hfz16_2
  try clear hfz18_0 hfz18_1 hfz18_2
  try clear hfz19_0 hfz19_1 hfz19_2
  obtain ⟨kq,x13_7,rfl,HA,HJ7,HO_12,BK417,HB⟩:=hcut
  cases kq with
  | zero => exact absurd HA.out (by simp [spec_l13Next.j1])
  | succ kj7 =>
   have H:=HA.out
   clear HA
   simp only [spec_l13Next.j1] at H
   have HC20:=Aside0.mk H
   clear H
   go_upto_region 8 with (fail)
   go_cut [53] (fun v53 wc => ∃ (kq:Nat) (x53_19:Bool),v53 = .bool x53_19 ∧ Aside0 (spec_l13Next.j2 kq a1 a3 (wrap64 (Int.tdiv a1 256)) (Int.tmod a1 256) x11_4 y418 x53_19 a2_0 a2_1 a2_2 = some r) ∧ Aside0 (kq ≤ kj7) ∧ Aside0 (Kd.R (Kd.int .i64) 2 wc w.heap.size (fun _ => True) v419 y418) ∧ Aside0 (wc.heap[gb417]? = some (.cells #[.int .i64 a2_0,.bool a2_1,.int .i64 a2_2] 30 (0,0))) ∧ Aside0 (Below w.heap.size w wc))
   case first =>
    as_aux_lemma =>
     have H:=HC20.out
     clear HC20
     by_cases c21:a2_1 = true
     ·subst c21
      rewrite [if_pos rfl] at H
      have H':=Aside0.mk H
      clear H
      have hcz22_0:wc.cell? ⟨gb417,0,none⟩ = some (.int .i64 a2_0):=bz_ BK417 0
      have hcz22_1:wc.cell? ⟨gb417,1,none⟩ = some (.bool true):=bz_ BK417 1
      have hcz22_2:wc.cell? ⟨gb417,2,none⟩ = some (.int .i64 a2_2):=bz_ BK417 2
      have hfz22_0:=blk_frozen BK417.out 0
      have hfz22_1:=blk_frozen BK417.out 1
      have hfz22_2:=blk_frozen BK417.out 2
      go_wp2
      go_meet
      case rel => exact ⟨_,(true),q94_,H',⟨by have:=HJ4.out;have:=HJ7.out;first | omega | exact Nat.le_refl _⟩,⟨q107_⟩,⟨q80_⟩,⟨q49_⟩⟩
     replace c21:=Bool.eq_false_iff.mpr c21
     subst c21
     rewrite [if_neg (show ¬ (false = true) by decide)] at H
     have H':=Aside0.mk H
     clear H
     have hcz23_0:wc.cell? ⟨gb417,0,none⟩ = some (.int .i64 a2_0):=bz_ BK417 0
     have hcz23_1:wc.cell? ⟨gb417,1,none⟩ = some (.bool false):=bz_ BK417 1
     have hcz23_2:wc.cell? ⟨gb417,2,none⟩ = some (.int .i64 a2_2):=bz_ BK417 2
     have hfz23_0:=blk_frozen BK417.out 0
     have hfz23_1:=blk_frozen BK417.out 1
     have hfz23_2:=blk_frozen BK417.out 2
     go_wp2
     go_meet
     case rel => exact ⟨_,(!x13_7),q94_,H',⟨by have:=HJ4.out;have:=HJ7.out;first | omega | exact Nat.le_refl _⟩,⟨q107_⟩,⟨q80_⟩,⟨q49_⟩⟩
   clear HC20
   try clear c1
   try clear c2
   try clear p2 p2
   try clear p6 p6
   try clear c7
   try clear c7b0
   try clear c11
   try clear c11b0
   try clear c11b1
   try clear c13
   try clear c13b0
   try clear c13b1
   try clear c15
   try clear c15b0
   try clear c15b1
   try clear c17
   try clear c17b0
   try clear c17b1
   try clear c21
   try clear hcz12_0 hcz12_1 hcz12_2
   try clear hcz14_0 hcz14_1 hcz14_2
   try clear hcz16_0 hcz16_1 hcz16_2
   try clear hcz18_0 hcz18_1 hcz18_2
   try clear hcz19_0 hcz19_1 hcz19_2
   try clear hcz22_0 hcz22_1 hcz22_2
   try clear hcz23_0 hcz23_1 hcz23_2
   try clear hfz12_0 hfz12_1 hfz12_2
   try clear hfz14_0 hfz14_1 hfz14_2
   try clear hfz16_0 hfz16_1 hfz16_2
   try clear hfz18_0 hfz18_1 hfz18_2
   try clear hfz19_0 hfz19_1 hfz19_2
   try clear hfz22_0 hfz22_1 hfz22_2
   try clear hfz23_0 hfz23_1 hfz23_2
   obtain ⟨kq,x53_19,rfl,HA,HJ19,HO_12,BK417,HB⟩:=hcut
   cases kq with
   | zero => exact absurd HA.out (by simp [spec_l13Next.j2])
   | succ kj19 =>
    have H:=HA.out
    clear HA
    simp only [spec_l13Next.j2] at H
    have HC24:=Aside0.mk H
    clear H
    go_upto_if 53 with (fail)
    go_cut [12] (fun v12 wc => ∃ (kq:Nat) (x12_23:List Int),Aside0 (spec_l13Next.j3 kq a3 (wrap64 (Int.tdiv a1 256)) (Int.tmod a1 256) x11_4 x12_23 a2_0 a2_1 a2_2 = some r) ∧ Aside0 (kq ≤ kj19) ∧ Aside0 (Kd.R (Kd.int .i64) 2 wc w.heap.size (fun _ => True) v12 x12_23) ∧ Aside0 (wc.heap[gb417]? = some (.cells #[.int .i64 a2_0,.bool a2_1,.int .i64 a2_2] 30 (0,0))) ∧ Aside0 (Below w.heap.size w wc))
    case first =>
     as_aux_lemma =>
      have H:=HC24.out
      clear HC24
      by_cases c25:x53_19 = true
      ·subst c25
       rewrite [if_pos rfl] at H
       by_cases c26:y418.length < 17592186044416
       rotate_left
       ·rw [if_neg c26] at H
        exact absurd H (by simp)
       rw [if_pos c26] at H
       have LMc26:=Aside0.mk c26
       clear c26
       obtain ⟨y421,hy421⟩:∃ y_:List Int,y_ = (y418 ++ [wrap64 (a1 + a3)]):=⟨_,rfl⟩
       replace H:(spec_l13Next.j3 kj19 a3 (wrap64 (Int.tdiv a1 256)) (Int.tmod a1 256) x11_4 y421 a2_0 a2_1 a2_2) = some r:=by first | (rw [hy421];exact H) | exact H
       have Ny421:=Aside0.mk hy421
       clear hy421
       have H':=Aside0.mk H
       clear H
       go_wp2_with (first | ((with_reducible refine gate_builtin (b:=.append) (xs:=#[.tmp 54,.tmp 58]) rfl ?_);at_builtin;refine Kd.R_append (Kd.int .i64) (w0:=w) w.heap.size rfl (.tmp 54) (.tmp 58) 40 2 (.int .i64 0) 8 rfl Tryz.underlying40 info2 rfl (by decide) (by omega) v419 y418 (wrap64 (a1 + a3)) [.int .i64 (wrap64 (a1 + a3))] (fun _ => True) (fun _ => False) rfl rfl ?aP (fun _ hk => hk.elim) ?aF ?aO ?aB ?aS ?aL ?_;(case aP => exact rfl);(case aB => exact q49_);(case aF => exact (fun _ _ => trivial));(case aO => exact q107_);(case aS => exact (below_size q49_));(case aL => have:=LMc26.out;omega);intro v422 w27 ho hb hg hat;rw [← Ny421.out] at ho;have n0_:=Aside0.mk (blk_grown (g:=gb417) (o:=.cells #[.int .i64 a2_0,.bool a2_1,.int .i64 a2_2] 30 (0,0)) q80_ hg (Kd.R_ne HO_12.out BK417.out (by decide)));have n1_:=Aside0.mk (hb);have n2_:=Aside0.mk (ho);clear BK417;clear HB;clear HO_12;have BK417:=n0_;have HB:=n1_;have HO423:=n2_;clear n0_ n1_ n2_;clear ho hb hg hat))
       go_meet
       case rel => exact ⟨_,(y421),H',⟨by have:=HJ4.out;have:=HJ7.out;have:=HJ19.out;first | omega | exact Nat.le_refl _⟩,⟨by (with_reducible repeat (first | apply Kd.R_alloc | apply Kd.R_drewN | apply Kd.R_drew));exact HO423.out⟩,⟨q80_⟩,⟨q49_⟩⟩
      replace c25:=Bool.eq_false_iff.mpr c25
      subst c25
      rewrite [if_neg (show ¬ (false = true) by decide)] at H
      have H':=Aside0.mk H
      clear H
      go_wp2
      go_meet
      case rel => exact ⟨_,(y418),H',⟨by have:=HJ4.out;have:=HJ7.out;have:=HJ19.out;first | omega | exact Nat.le_refl _⟩,⟨q107_⟩,⟨q80_⟩,⟨q49_⟩⟩
    clear HC24
    try clear c1
    try clear c2
    try clear p2 p2
    try clear p6 p6
    try clear c7
    try clear c7b0
    try clear c11
    try clear c11b0
    try clear c11b1
    try clear c13
    try clear c13b0
    try clear c13b1
    try clear c15
    try clear c15b0
    try clear c15b1
    try clear c17
    try clear c17b0
    try clear c17b1
    try clear c21
    try clear c25
    try clear c26
    try clear hcz12_0 hcz12_1 hcz12_2
    try clear hcz14_0 hcz14_1 hcz14_2
    try clear hcz16_0 hcz16_1 hcz16_2
    try clear hcz18_0 hcz18_1 hcz18_2
    try clear hcz19_0 hcz19_1 hcz19_2
    try clear hcz22_0 hcz22_1 hcz22_2
    try clear hcz23_0 hcz23_1 hcz23_2
    try clear hfz12_0 hfz12_1 hfz12_2
    try clear hfz14_0 hfz14_1 hfz14_2
    try clear hfz16_0 hfz16_1 hfz16_2
    try clear hfz18_0 hfz18_1 hfz18_2
    try clear hfz19_0 hfz19_1 hfz19_2
    try clear hfz22_0 hfz22_1 hfz22_2
    try clear hfz23_0 hfz23_1 hfz23_2
    obtain ⟨kq,x12_23,HA,HJ23,HO_12,BK417,HB⟩:=hcut
    cases kq with
    | zero => exact absurd HA.out (by simp [spec_l13Next.j3])
    | succ kj23 =>
     have H:=HA.out
     clear HA
     simp only [spec_l13Next.j3] at H
     replace H:=Option.bind_eq_some_iff.mp H
     obtain ⟨t424,A280,H⟩:=H
     have A28:=Aside0.mk A280
     clear A280
     replace H:=Option.bind_eq_some_iff.mp H
     obtain ⟨⟨t425,t426⟩,A290,H⟩:=H
     try dsimp -simprocs -eta only at H
     have A29:=Aside0.mk A290
     clear A290
     have HC30:=Aside0.mk H
     clear H
     have hcz31_0:wc.cell? ⟨gb417,0,none⟩ = some (.int .i64 a2_0):=bz_ BK417 0
     have hcz31_1:wc.cell? ⟨gb417,1,none⟩ = some (.bool a2_1):=bz_ BK417 1
     have hcz31_2:wc.cell? ⟨gb417,2,none⟩ = some (.int .i64 a2_2):=bz_ BK417 2
     have hfz31_0:=blk_frozen BK417.out 0
     have hfz31_1:=blk_frozen BK417.out 1
     have hfz31_2:=blk_frozen BK417.out 2
     go_upto_block 0 with (first | ((with_reducible refine gate_callee (f:=60) rfl ?_);refine goesL_ (some 64) rfl rfl Tryz.func60 (by kernel_rfl) rfl #[.int .i64 a2_0,.bool a2_1] rfl q68_ ?_;(with_reducible refine (spec_l3Template.calls kj23 a2_0 a2_1 t424 _ A28.out).mono ?_);rintro e w32 ⟨rfl,hb⟩;refine ⟨_,rfl,?_⟩;have n0_:=Aside0.mk (Kd.R_below q107_ hb);have n1_:=Aside0.mk (blk_below (g:=gb417) (o:=.cells #[.int .i64 a2_0,.bool a2_1,.int .i64 a2_2] 30 (0,0)) q80_ hb);have n2_:=Aside0.mk (below_step q49_ hb);clear HO_12;clear BK417;clear HB;have HO_12:=n0_;have BK417:=n1_;have HB:=n2_;clear n0_ n1_ n2_;(try clear hb)) | ((with_reducible refine gate_callee (f:=59) rfl ?_);refine goesL_ (some 67) rfl rfl Tryz.func59 (by kernel_rfl) rfl #[.string t424] rfl q68_ ?_;(with_reducible refine (spec_l3Hole.calls kj23 t424 t425 t426 _ A29.out).mono ?_);rintro e w33 ⟨rfl,hb⟩;refine ⟨_,rfl,?_⟩;have n0_:=Aside0.mk (Kd.R_below q107_ hb);have n1_:=Aside0.mk (blk_below (g:=gb417) (o:=.cells #[.int .i64 a2_0,.bool a2_1,.int .i64 a2_2] 30 (0,0)) q80_ hb);have n2_:=Aside0.mk (below_step q49_ hb);clear HO_12;clear BK417;clear HB;have HO_12:=n0_;have BK417:=n1_;have HB:=n2_;clear n0_ n1_ n2_;(try clear hb)))
     (try simp only [Act.put,List.setIfInBounds_toArray,List.set_cons_zero,List.set_cons_succ])
     go_cut [17] (fun v17 wc => ∃ (kq:Nat) (x17_29:Int),v17 = .int .i64 x17_29 ∧ Aside0 (spec_l13Next.j8 kq (wrap64 (Int.tdiv a1 256)) x12_23 x17_29 = some r) ∧ Aside0 (kq ≤ kj23) ∧ Aside0 (Kd.R (Kd.int .i64) 2 wc w.heap.size (fun _ => True) u12 x12_23) ∧ Aside0 (wc.heap[gb417]? = some (.cells #[.int .i64 a2_0,.bool a2_1,.int .i64 a2_2] 30 (0,0))) ∧ Aside0 (Below w.heap.size w wc))
     case first =>
      as_aux_lemma =>
       have H:=HC30.out
       clear HC30
       have HC34:=Aside0.mk H
       clear H
       go_upto_region 13 with (fail)
       go_cut [70] (fun v70 wc => ∃ (kq:Nat) (x70_33:Bool),v70 = .bool x70_33 ∧ Aside0 (spec_l13Next.j4 kq a3 (wrap64 (Int.tdiv a1 256)) (Int.tmod a1 256) x11_4 x12_23 t426 (-1) x70_33 a2_0 a2_1 a2_2 = some r) ∧ Aside0 (kq ≤ kj23) ∧ Aside0 (Kd.R (Kd.int .i64) 2 wc w.heap.size (fun _ => True) u12 x12_23) ∧ Aside0 (wc.heap[gb417]? = some (.cells #[.int .i64 a2_0,.bool a2_1,.int .i64 a2_2] 30 (0,0))) ∧ Aside0 (Below w.heap.size w wc))
       case first =>
        as_aux_lemma =>
         have H:=HC34.out
         clear HC34
         by_cases c35:t426.toList = ([101,56]:List UInt8)
         ·rw [if_pos c35] at H
          have c35b0:(t426.toList == ([101,56]:List UInt8)) = true:=beq_iff_eq.mpr c35
          have c35b1:(t426.toList != ([101,56]:List UInt8)) = false:=bne_eq_false_iff_eq.mpr c35
          clear c35
          (first | rw [c35b0] | (simp only [i64_w,i32_w];rw [c35b0]) | skip)
          have H':=Aside0.mk H
          clear H
          have hcz36_0:w33.cell? ⟨gb417,0,none⟩ = some (.int .i64 a2_0):=bz_ BK417 0
          have hcz36_1:w33.cell? ⟨gb417,1,none⟩ = some (.bool a2_1):=bz_ BK417 1
          have hcz36_2:w33.cell? ⟨gb417,2,none⟩ = some (.int .i64 a2_2):=bz_ BK417 2
          have hfz36_0:=blk_frozen BK417.out 0
          have hfz36_1:=blk_frozen BK417.out 1
          have hfz36_2:=blk_frozen BK417.out 2
          go_wp2
          go_meet
          case rel => exact ⟨_,(decide (a2_0 < 64)),q94_,H',⟨by have:=HJ4.out;have:=HJ7.out;have:=HJ19.out;have:=HJ23.out;first | omega | exact Nat.le_refl _⟩,⟨q107_⟩,⟨q80_⟩,⟨q49_⟩⟩
         rw [if_neg c35] at H
         have c35b0:(t426.toList == ([101,56]:List UInt8)) = false:=beq_eq_false_iff_ne.mpr c35
         have c35b1:(t426.toList != ([101,56]:List UInt8)) = true:=bne_iff_ne.mpr c35
         (first | rw [c35b0] | (simp only [i64_w,i32_w];rw [c35b0]) | skip)
         have H':=Aside0.mk H
         clear H
         go_wp2
         go_meet
         case rel => exact ⟨_,(false),q94_,H',⟨by have:=HJ4.out;have:=HJ7.out;have:=HJ19.out;have:=HJ23.out;first | omega | exact Nat.le_refl _⟩,⟨q107_⟩,⟨q80_⟩,⟨q49_⟩⟩
       clear HC34
       try clear c1
       try clear c2
       try clear p2 p2
       try clear c3
       try clear c5
       try clear c6
       try clear p6 p6
       try clear c7
       try clear c7b0
       try clear c11
       try clear c11b0
       try clear c11b1
       try clear c13
       try clear c13b0
       try clear c13b1
       try clear c15
       try clear c15b0
       try clear c15b1
       try clear c17
       try clear c17b0
       try clear c17b1
       try clear c21
       try clear c25
       try clear c26
       try clear c35
       try clear c35b0
       try clear c35b1
       try clear hcz12_0 hcz12_1 hcz12_2
       try clear hcz14_0 hcz14_1 hcz14_2
       try clear hcz16_0 hcz16_1 hcz16_2
       try clear hcz18_0 hcz18_1 hcz18_2
       try clear hcz19_0 hcz19_1 hcz19_2
       try clear hcz22_0 hcz22_1 hcz22_2
       try clear hcz23_0 hcz23_1 hcz23_2
       try clear hcz31_0 hcz31_1 hcz31_2
       try clear hcz36_0 hcz36_1 hcz36_2
       try clear hfz12_0 hfz12_1 hfz12_2
       try clear hfz14_0 hfz14_1 hfz14_2
       try clear hfz16_0 hfz16_1 hfz16_2
       try clear hfz18_0 hfz18_1 hfz18_2
       try clear hfz19_0 hfz19_1 hfz19_2
       try clear hfz22_0 hfz22_1 hfz22_2
       try clear hfz23_0 hfz23_1 hfz23_2
       try clear hfz31_0 hfz31_1 hfz31_2
       try clear hfz36_0 hfz36_1 hfz36_2
       obtain ⟨kq,x70_33,rfl,HA,HJ33,HO_12,BK417,HB⟩:=hcut
       cases kq with
       | zero => exact absurd HA.out (by simp [spec_l13Next.j4])
       | succ kj33 =>
        have H:=HA.out
        clear HA
        simp only [spec_l13Next.j4] at H
        by_cases c37:x70_33 = true
        ·subst c37
         rewrite [if_pos rfl] at H
         replace H:=Option.bind_eq_some_iff.mp H
         obtain ⟨t427,A380,H⟩:=H
         have A38:=Aside0.mk A380
         clear A380
         have H':=Aside0.mk H
         clear H
         have hcz39_0:wc.cell? ⟨gb417,0,none⟩ = some (.int .i64 a2_0):=bz_ BK417 0
         have hcz39_1:wc.cell? ⟨gb417,1,none⟩ = some (.bool a2_1):=bz_ BK417 1
         have hcz39_2:wc.cell? ⟨gb417,2,none⟩ = some (.int .i64 a2_2):=bz_ BK417 2
         have hfz39_0:=blk_frozen BK417.out 0
         have hfz39_1:=blk_frozen BK417.out 1
         have hfz39_2:=blk_frozen BK417.out 2
         go_wp2_with (first | ((with_reducible refine gate_callee (f:=72) rfl ?_);refine goesL_ (some 85) rfl rfl Tryz.func72 (by kernel_rfl) rfl #[.int .i64 a2_2] rfl q68_ ?_;(with_reducible refine (spec_SignedOf.calls a2_2 t427 _ A38.out).mono ?_);rintro e w' ⟨rfl,⟨nd,rfl⟩⟩;refine ⟨_,rfl,?_⟩))
         go_meet
         case rel => exact ⟨_,(wrap64 ((wrap64 ((wrap64 (x11_4 + (Int.tmod a1 256))) + a3)) + t427)),q94_,H',⟨q74_⟩,⟨q107_⟩,⟨q80_⟩,⟨q49_⟩⟩
        replace c37:=Bool.eq_false_iff.mpr c37
        subst c37
        rewrite [if_neg (show ¬ (false = true) by decide)] at H
        have HC40:=Aside0.mk H
        clear H
        go_upto_region 15 with (fail)
        go_cut [87] (fun v87 wc => ∃ (kq:Nat) (x87_39:Bool),v87 = .bool x87_39 ∧ Aside0 (spec_l13Next.j5 kq (wrap64 (Int.tdiv a1 256)) x12_23 (-1) x87_39 a2_0 a2_1 a2_2 = some r) ∧ Aside0 (kq ≤ kj33) ∧ Aside0 (Kd.R (Kd.int .i64) 2 wc w.heap.size (fun _ => True) u12 x12_23) ∧ Aside0 (wc.heap[gb417]? = some (.cells #[.int .i64 a2_0,.bool a2_1,.int .i64 a2_2] 30 (0,0))) ∧ Aside0 (Below w.heap.size w wc))
        case first =>
         as_aux_lemma =>
          have H:=HC40.out
          clear HC40
          by_cases c41:t426.toList = ([110,49,54]:List UInt8)
          ·rw [if_pos c41] at H
           have c41b0:(t426.toList == ([110,49,54]:List UInt8)) = true:=beq_iff_eq.mpr c41
           have c41b1:(t426.toList != ([110,49,54]:List UInt8)) = false:=bne_eq_false_iff_eq.mpr c41
           clear c41
           (first | rw [c41b0] | (simp only [i64_w,i32_w];rw [c41b0]) | skip)
           by_cases c42:a2_0 ≥ 192
           ·rw [if_pos c42] at H
            have c42b0:decide (192 ≤ a2_0) = true:=decide_eq_true c42
            clear c42
            have H':=Aside0.mk H
            clear H
            have hcz43_0:wc.cell? ⟨gb417,0,none⟩ = some (.int .i64 a2_0):=bz_ BK417 0
            have hcz43_1:wc.cell? ⟨gb417,1,none⟩ = some (.bool a2_1):=bz_ BK417 1
            have hcz43_2:wc.cell? ⟨gb417,2,none⟩ = some (.int .i64 a2_2):=bz_ BK417 2
            have hfz43_0:=blk_frozen BK417.out 0
            have hfz43_1:=blk_frozen BK417.out 1
            have hfz43_2:=blk_frozen BK417.out 2
            go_wp2
            go_meet
            case rel => exact ⟨_,(((Int.tmod a2_0 8) != 2)),q94_,H',⟨q74_⟩,⟨q107_⟩,⟨q80_⟩,⟨q49_⟩⟩
           rw [if_neg c42] at H
           have c42b0:decide (192 ≤ a2_0) = false:=decide_eq_false c42
           clear c42
           have H':=Aside0.mk H
           clear H
           have hcz44_0:wc.cell? ⟨gb417,0,none⟩ = some (.int .i64 a2_0):=bz_ BK417 0
           have hcz44_1:wc.cell? ⟨gb417,1,none⟩ = some (.bool a2_1):=bz_ BK417 1
           have hcz44_2:wc.cell? ⟨gb417,2,none⟩ = some (.int .i64 a2_2):=bz_ BK417 2
           have hfz44_0:=blk_frozen BK417.out 0
           have hfz44_1:=blk_frozen BK417.out 1
           have hfz44_2:=blk_frozen BK417.out 2
           go_wp2
           go_meet
           case rel => exact ⟨_,(false),q94_,H',⟨q74_⟩,⟨q107_⟩,⟨q80_⟩,⟨q49_⟩⟩
          rw [if_neg c41] at H
          have c41b0:(t426.toList == ([110,49,54]:List UInt8)) = false:=beq_eq_false_iff_ne.mpr c41
          have c41b1:(t426.toList != ([110,49,54]:List UInt8)) = true:=bne_iff_ne.mpr c41
          (first | rw [c41b0] | (simp only [i64_w,i32_w];rw [c41b0]) | skip)
          have H':=Aside0.mk H
          clear H
          go_wp2
          go_meet
          case rel => exact ⟨_,(false),q94_,H',⟨q74_⟩,⟨q107_⟩,⟨q80_⟩,⟨q49_⟩⟩
        clear HC40
        try clear c1
        try clear c2
        try clear p2 p2
        try clear c3
        try clear c4
        try clear c5
        try clear c6
        try clear p6 p6
        try clear c7
        try clear c7b0
        try clear c11
        try clear c11b0
        try clear c11b1
        try clear c13
        try clear c13b0
        try clear c13b1
        try clear c15
        try clear c15b0
        try clear c15b1
        try clear c17
        try clear c17b0
        try clear c17b1
        try clear c21
        try clear c25
        try clear c26
        try clear c35
        try clear c35b0
        try clear c35b1
        try clear c37
        try clear c41
        try clear c41b0
        try clear c41b1
        try clear c42
        try clear c42b0
        try clear hcz12_0 hcz12_1 hcz12_2
        try clear hcz14_0 hcz14_1 hcz14_2
        try clear hcz16_0 hcz16_1 hcz16_2
        try clear hcz18_0 hcz18_1 hcz18_2
        try clear hcz19_0 hcz19_1 hcz19_2
        try clear hcz22_0 hcz22_1 hcz22_2
        try clear hcz23_0 hcz23_1 hcz23_2
        try clear hcz31_0 hcz31_1 hcz31_2
        try clear hcz36_0 hcz36_1 hcz36_2
        try clear hcz39_0 hcz39_1 hcz39_2
        try clear hcz43_0 hcz43_1 hcz43_2
        try clear hcz44_0 hcz44_1 hcz44_2
        try clear hfz12_0 hfz12_1 hfz12_2
        try clear hfz14_0 hfz14_1 hfz14_2
        try clear hfz16_0 hfz16_1 hfz16_2
        try clear hfz18_0 hfz18_1 hfz18_2
        try clear hfz19_0 hfz19_1 hfz19_2
        try clear hfz22_0 hfz22_1 hfz22_2
        try clear hfz23_0 hfz23_1 hfz23_2
        try clear hfz31_0 hfz31_1 hfz31_2
        try clear hfz36_0 hfz36_1 hfz36_2
        try clear hfz39_0 hfz39_1 hfz39_2
        try clear hfz43_0 hfz43_1 hfz43_2
        try clear hfz44_0 hfz44_1 hfz44_2
        obtain ⟨kq,x87_39,rfl,HA,HJ39,HO_12,BK417,HB⟩:=hcut
        cases kq with
        | zero => exact absurd HA.out (by simp [spec_l13Next.j5])
        | succ kj39 =>
         have H:=HA.out
         clear HA
         simp only [spec_l13Next.j5] at H
         have HC45:=Aside0.mk H
         clear H
         go_upto_if 87 with (fail)
         go_cut [87] (fun v87 wc => ∃ (kq:Nat) (x87_44:Bool),v87 = .bool x87_44 ∧ Aside0 (spec_l13Next.j6 kq (wrap64 (Int.tdiv a1 256)) x12_23 (-1) x87_44 a2_0 a2_1 a2_2 = some r) ∧ Aside0 (kq ≤ kj39) ∧ Aside0 (Kd.R (Kd.int .i64) 2 wc w.heap.size (fun _ => True) u12 x12_23) ∧ Aside0 (wc.heap[gb417]? = some (.cells #[.int .i64 a2_0,.bool a2_1,.int .i64 a2_2] 30 (0,0))) ∧ Aside0 (Below w.heap.size w wc))
         case first =>
          as_aux_lemma =>
           have H:=HC45.out
           clear HC45
           by_cases c46:x87_39 = true
           ·subst c46
            rewrite [if_pos rfl] at H
            have H':=Aside0.mk H
            clear H
            go_wp2
            go_meet
            case rel => exact ⟨_,(true),q94_,H',⟨q65_⟩,⟨q107_⟩,⟨q80_⟩,⟨q49_⟩⟩
           replace c46:=Bool.eq_false_iff.mpr c46
           subst c46
           rewrite [if_neg (show ¬ (false = true) by decide)] at H
           by_cases c47:a2_0 ≥ 194
           ·rw [if_pos c47] at H
            have c47b0:decide (194 ≤ a2_0) = true:=decide_eq_true c47
            clear c47
            (first | rw [c47b0] | (simp only [i64_w,i32_w];rw [c47b0]) | skip)
            by_cases c48:(Int.tmod a2_0 8) = 2
            ·rw [if_pos c48] at H
             have c48b0:((Int.tmod a2_0 8) == 2) = true:=beq_iff_eq.mpr c48
             have c48b1:((Int.tmod a2_0 8) != 2) = false:=bne_eq_false_iff_eq.mpr c48
             clear c48
             by_cases c49:a2_0 < 224
             ·rw [if_pos c49] at H
              have c49b0:=decide_eq_true c49
              clear c49
              have H':=Aside0.mk H
              clear H
              have hcz50_0:wc.cell? ⟨gb417,0,none⟩ = some (.int .i64 a2_0):=bz_ BK417 0
              have hcz50_1:wc.cell? ⟨gb417,1,none⟩ = some (.bool a2_1):=bz_ BK417 1
              have hcz50_2:wc.cell? ⟨gb417,2,none⟩ = some (.int .i64 a2_2):=bz_ BK417 2
              have hfz50_0:=blk_frozen BK417.out 0
              have hfz50_1:=blk_frozen BK417.out 1
              have hfz50_2:=blk_frozen BK417.out 2
              go_wp2
              go_meet
              case rel => exact ⟨_,(!a2_1),q94_,H',⟨q65_⟩,⟨q107_⟩,⟨q80_⟩,⟨q49_⟩⟩
             rw [if_neg c49] at H
             have c49b0:=decide_eq_false c49
             clear c49
             have H':=Aside0.mk H
             clear H
             have hcz51_0:wc.cell? ⟨gb417,0,none⟩ = some (.int .i64 a2_0):=bz_ BK417 0
             have hcz51_1:wc.cell? ⟨gb417,1,none⟩ = some (.bool a2_1):=bz_ BK417 1
             have hcz51_2:wc.cell? ⟨gb417,2,none⟩ = some (.int .i64 a2_2):=bz_ BK417 2
             have hfz51_0:=blk_frozen BK417.out 0
             have hfz51_1:=blk_frozen BK417.out 1
             have hfz51_2:=blk_frozen BK417.out 2
             go_wp2
             go_meet
             case rel => exact ⟨_,(false),q94_,H',⟨q65_⟩,⟨q107_⟩,⟨q80_⟩,⟨q49_⟩⟩
            rw [if_neg c48] at H
            have c48b0:((Int.tmod a2_0 8) == 2) = false:=beq_eq_false_iff_ne.mpr c48
            have c48b1:((Int.tmod a2_0 8) != 2) = true:=bne_iff_ne.mpr c48
            have H':=Aside0.mk H
            clear H
            have hcz52_0:wc.cell? ⟨gb417,0,none⟩ = some (.int .i64 a2_0):=bz_ BK417 0
            have hcz52_1:wc.cell? ⟨gb417,1,none⟩ = some (.bool a2_1):=bz_ BK417 1
            have hcz52_2:wc.cell? ⟨gb417,2,none⟩ = some (.int .i64 a2_2):=bz_ BK417 2
            have hfz52_0:=blk_frozen BK417.out 0
            have hfz52_1:=blk_frozen BK417.out 1
            have hfz52_2:=blk_frozen BK417.out 2
            go_wp2
            go_meet
            case rel => exact ⟨_,(false),q94_,H',⟨q65_⟩,⟨q107_⟩,⟨q80_⟩,⟨q49_⟩⟩
           rw [if_neg c47] at H
           have c47b0:decide (194 ≤ a2_0) = false:=decide_eq_false c47
           clear c47
           (first | rw [c47b0] | (simp only [i64_w,i32_w];rw [c47b0]) | skip)
           have H':=Aside0.mk H
           clear H
           have hcz53_0:wc.cell? ⟨gb417,0,none⟩ = some (.int .i64 a2_0):=bz_ BK417 0
           have hcz53_1:wc.cell? ⟨gb417,1,none⟩ = some (.bool a2_1):=bz_ BK417 1
           have hcz53_2:wc.cell? ⟨gb417,2,none⟩ = some (.int .i64 a2_2):=bz_ BK417 2
           have hfz53_0:=blk_frozen BK417.out 0
           have hfz53_1:=blk_frozen BK417.out 1
           have hfz53_2:=blk_frozen BK417.out 2
           go_wp2
           go_meet
           case rel => exact ⟨_,(false),q94_,H',⟨q65_⟩,⟨q107_⟩,⟨q80_⟩,⟨q49_⟩⟩
         clear HC45
         try clear c1
         try clear c2
         try clear p2 p2
         try clear c3
         try clear c4
         try clear c5
         try clear c6
         try clear p6 p6
         try clear c7
         try clear c7b0
         try clear c11
         try clear c11b0
         try clear c11b1
         try clear c13
         try clear c13b0
         try clear c13b1
         try clear c15
         try clear c15b0
         try clear c15b1
         try clear c17
         try clear c17b0
         try clear c17b1
         try clear c21
         try clear c25
         try clear c26
         try clear c35
         try clear c35b0
         try clear c35b1
         try clear c37
         try clear c41
         try clear c41b0
         try clear c41b1
         try clear c42
         try clear c42b0
         try clear c46
         try clear c47
         try clear c47b0
         try clear c48
         try clear c48b0
         try clear c48b1
         try clear c49
         try clear c49b0
         try clear hcz12_0 hcz12_1 hcz12_2
         try clear hcz14_0 hcz14_1 hcz14_2
         try clear hcz16_0 hcz16_1 hcz16_2
         try clear hcz18_0 hcz18_1 hcz18_2
         try clear hcz19_0 hcz19_1 hcz19_2
         try clear hcz22_0 hcz22_1 hcz22_2
         try clear hcz23_0 hcz23_1 hcz23_2
         try clear hcz31_0 hcz31_1 hcz31_2
         try clear hcz36_0 hcz36_1 hcz36_2
         try clear hcz39_0 hcz39_1 hcz39_2
         try clear hcz43_0 hcz43_1 hcz43_2
         try clear hcz44_0 hcz44_1 hcz44_2
         try clear hcz50_0 hcz50_1 hcz50_2
         try clear hcz51_0 hcz51_1 hcz51_2
         try clear hcz52_0 hcz52_1 hcz52_2
         try clear hcz53_0 hcz53_1 hcz53_2
         try clear hfz12_0 hfz12_1 hfz12_2
         try clear hfz14_0 hfz14_1 hfz14_2
         try clear hfz16_0 hfz16_1 hfz16_2
         try clear hfz18_0 hfz18_1 hfz18_2
         try clear hfz19_0 hfz19_1 hfz19_2
         try clear hfz22_0 hfz22_1 hfz22_2
         try clear hfz23_0 hfz23_1 hfz23_2
         try clear hfz31_0 hfz31_1 hfz31_2
         try clear hfz36_0 hfz36_1 hfz36_2
         try clear hfz39_0 hfz39_1 hfz39_2
         try clear hfz43_0 hfz43_1 hfz43_2
         try clear hfz44_0 hfz44_1 hfz44_2
         try clear hfz50_0 hfz50_1 hfz50_2
         try clear hfz51_0 hfz51_1 hfz51_2
         try clear hfz52_0 hfz52_1 hfz52_2
         try clear hfz53_0 hfz53_1 hfz53_2
         obtain ⟨kq,x87_44,rfl,HA,HJ44,HO_12,BK417,HB⟩:=hcut
         cases kq with
         | zero => exact absurd HA.out (by simp [spec_l13Next.j6])
         | succ kj44 =>
          have H:=HA.out
          clear HA
          simp only [spec_l13Next.j6] at H
          by_cases c54:x87_44 = true
          ·subst c54
           rewrite [if_pos rfl] at H
           have H':=Aside0.mk H
           clear H
           have hcz55_0:wc.cell? ⟨gb417,0,none⟩ = some (.int .i64 a2_0):=bz_ BK417 0
           have hcz55_1:wc.cell? ⟨gb417,1,none⟩ = some (.bool a2_1):=bz_ BK417 1
           have hcz55_2:wc.cell? ⟨gb417,2,none⟩ = some (.int .i64 a2_2):=bz_ BK417 2
           have hfz55_0:=blk_frozen BK417.out 0
           have hfz55_1:=blk_frozen BK417.out 1
           have hfz55_2:=blk_frozen BK417.out 2
           go_wp2
           go_meet
           case rel => exact ⟨_,(a2_2),q94_,H',⟨q60_⟩,⟨q107_⟩,⟨q80_⟩,⟨q49_⟩⟩
          replace c54:=Bool.eq_false_iff.mpr c54
          subst c54
          rewrite [if_neg (show ¬ (false = true) by decide)] at H
          have HC56:=Aside0.mk H
          clear H
          go_upto_region 18 with (fail)
          go_cut [122] (fun v122 wc => ∃ (kq:Nat) (x122_55:Bool),v122 = .bool x122_55 ∧ Aside0 (spec_l13Next.j7 kq (wrap64 (Int.tdiv a1 256)) x12_23 (-1) x122_55 a2_0 a2_1 a2_2 = some r) ∧ Aside0 (kq ≤ kj44) ∧ Aside0 (Kd.R (Kd.int .i64) 2 wc w.heap.size (fun _ => True) u12 x12_23) ∧ Aside0 (wc.heap[gb417]? = some (.cells #[.int .i64 a2_0,.bool a2_1,.int .i64 a2_2] 30 (0,0))) ∧ Aside0 (Below w.heap.size w wc))
          case first =>
           as_aux_lemma =>
            have H:=HC56.out
            clear HC56
            by_cases c57:a2_0 ≥ 192
            ·rw [if_pos c57] at H
             have c57b0:decide (192 ≤ a2_0) = true:=decide_eq_true c57
             clear c57
             (first | rw [c57b0] | (simp only [i64_w,i32_w];rw [c57b0]) | skip)
             by_cases c58:(Int.tmod a2_0 8) = 7
             ·rw [if_pos c58] at H
              have c58b0:((Int.tmod a2_0 8) == 7) = true:=beq_iff_eq.mpr c58
              have c58b1:((Int.tmod a2_0 8) != 7) = false:=bne_eq_false_iff_eq.mpr c58
              clear c58
              have H':=Aside0.mk H
              clear H
              have hcz59_0:wc.cell? ⟨gb417,0,none⟩ = some (.int .i64 a2_0):=bz_ BK417 0
              have hcz59_1:wc.cell? ⟨gb417,1,none⟩ = some (.bool a2_1):=bz_ BK417 1
              have hcz59_2:wc.cell? ⟨gb417,2,none⟩ = some (.int .i64 a2_2):=bz_ BK417 2
              have hfz59_0:=blk_frozen BK417.out 0
              have hfz59_1:=blk_frozen BK417.out 1
              have hfz59_2:=blk_frozen BK417.out 2
              go_wp2
              go_meet
              case rel => exact ⟨_,(!a2_1),q94_,H',⟨q60_⟩,⟨q107_⟩,⟨q80_⟩,⟨q49_⟩⟩
             rw [if_neg c58] at H
             have c58b0:((Int.tmod a2_0 8) == 7) = false:=beq_eq_false_iff_ne.mpr c58
             have c58b1:((Int.tmod a2_0 8) != 7) = true:=bne_iff_ne.mpr c58
             have H':=Aside0.mk H
             clear H
             have hcz60_0:wc.cell? ⟨gb417,0,none⟩ = some (.int .i64 a2_0):=bz_ BK417 0
             have hcz60_1:wc.cell? ⟨gb417,1,none⟩ = some (.bool a2_1):=bz_ BK417 1
             have hcz60_2:wc.cell? ⟨gb417,2,none⟩ = some (.int .i64 a2_2):=bz_ BK417 2
             have hfz60_0:=blk_frozen BK417.out 0
             have hfz60_1:=blk_frozen BK417.out 1
             have hfz60_2:=blk_frozen BK417.out 2
             go_wp2
             go_meet
             case rel => exact ⟨_,(false),q94_,H',⟨q60_⟩,⟨q107_⟩,⟨q80_⟩,⟨q49_⟩⟩
            rw [if_neg c57] at H
            have c57b0:decide (192 ≤ a2_0) = false:=decide_eq_false c57
            clear c57
            (first | rw [c57b0] | (simp only [i64_w,i32_w];rw [c57b0]) | skip)
            have H':=Aside0.mk H
            clear H
            have hcz61_0:wc.cell? ⟨gb417,0,none⟩ = some (.int .i64 a2_0):=bz_ BK417 0
            have hcz61_1:wc.cell? ⟨gb417,1,none⟩ = some (.bool a2_1):=bz_ BK417 1
            have hcz61_2:wc.cell? ⟨gb417,2,none⟩ = some (.int .i64 a2_2):=bz_ BK417 2
            have hfz61_0:=blk_frozen BK417.out 0
            have hfz61_1:=blk_frozen BK417.out 1
            have hfz61_2:=blk_frozen BK417.out 2
            go_wp2
            go_meet
            case rel => exact ⟨_,(false),q94_,H',⟨q60_⟩,⟨q107_⟩,⟨q80_⟩,⟨q49_⟩⟩
          clear HC56
          try clear c1
          try clear c2
          try clear p2 p2
          try clear c3
          try clear c4
          try clear c5
          try clear c6
          try clear p6 p6
          try clear c7
          try clear c7b0
          try clear c11
          try clear c11b0
          try clear c11b1
          try clear c13
          try clear c13b0
          try clear c13b1
          try clear c15
          try clear c15b0
          try clear c15b1
          try clear c17
          try clear c17b0
          try clear c17b1
          try clear c21
          try clear c25
          try clear c26
          try clear c35
          try clear c35b0
          try clear c35b1
          try clear c37
          try clear c41
          try clear c41b0
          try clear c41b1
          try clear c42
          try clear c42b0
          try clear c46
          try clear c47
          try clear c47b0
          try clear c48
          try clear c48b0
          try clear c48b1
          try clear c49
          try clear c49b0
          try clear c54
          try clear c57
          try clear c57b0
          try clear c58
          try clear c58b0
          try clear c58b1
          try clear hcz12_0 hcz12_1 hcz12_2
          try clear hcz14_0 hcz14_1 hcz14_2
          try clear hcz16_0 hcz16_1 hcz16_2
          try clear hcz18_0 hcz18_1 hcz18_2
          try clear hcz19_0 hcz19_1 hcz19_2
          try clear hcz22_0 hcz22_1 hcz22_2
          try clear hcz23_0 hcz23_1 hcz23_2
          try clear hcz31_0 hcz31_1 hcz31_2
          try clear hcz36_0 hcz36_1 hcz36_2
          try clear hcz39_0 hcz39_1 hcz39_2
          try clear hcz43_0 hcz43_1 hcz43_2
          try clear hcz44_0 hcz44_1 hcz44_2
          try clear hcz50_0 hcz50_1 hcz50_2
          try clear hcz51_0 hcz51_1 hcz51_2
          try clear hcz52_0 hcz52_1 hcz52_2
          try clear hcz53_0 hcz53_1 hcz53_2
          try clear hcz55_0 hcz55_1 hcz55_2
          try clear hcz59_0 hcz59_1 hcz59_2
          try clear hcz60_0 hcz60_1 hcz60_2
          try clear hcz61_0 hcz61_1 hcz61_2
          try clear hfz12_0 hfz12_1 hfz12_2
          try clear hfz14_0 hfz14_1 hfz14_2
          try clear hfz16_0 hfz16_1 hfz16_2
          try clear hfz18_0 hfz18_1 hfz18_2
          try clear hfz19_0 hfz19_1 hfz19_2
          try clear hfz22_0 hfz22_1 hfz22_2
          try clear hfz23_0 hfz23_1 hfz23_2
          try clear hfz31_0 hfz31_1 hfz31_2
          try clear hfz36_0 hfz36_1 hfz36_2
          try clear hfz39_0 hfz39_1 hfz39_2
          try clear hfz43_0 hfz43_1 hfz43_2
          try clear hfz44_0 hfz44_1 hfz44_2
          try clear hfz50_0 hfz50_1 hfz50_2
          try clear hfz51_0 hfz51_1 hfz51_2
          try clear hfz52_0 hfz52_1 hfz52_2
          try clear hfz53_0 hfz53_1 hfz53_2
          try clear hfz55_0 hfz55_1 hfz55_2
          try clear hfz59_0 hfz59_1 hfz59_2
          try clear hfz60_0 hfz60_1 hfz60_2
          try clear hfz61_0 hfz61_1 hfz61_2
          obtain ⟨kq,x122_55,rfl,HA,HJ55,HO_12,BK417,HB⟩:=hcut
          cases kq with
          | zero => exact absurd HA.out (by simp [spec_l13Next.j7])
          | succ kj55 =>
           have H:=HA.out
           clear HA
           simp only [spec_l13Next.j7] at H
           by_cases c62:x122_55 = true
           ·subst c62
            rewrite [if_pos rfl] at H
            have H':=Aside0.mk H
            clear H
            have hcz63_0:wc.cell? ⟨gb417,0,none⟩ = some (.int .i64 a2_0):=bz_ BK417 0
            have hcz63_1:wc.cell? ⟨gb417,1,none⟩ = some (.bool a2_1):=bz_ BK417 1
            have hcz63_2:wc.cell? ⟨gb417,2,none⟩ = some (.int .i64 a2_2):=bz_ BK417 2
            have hfz63_0:=blk_frozen BK417.out 0
            have hfz63_1:=blk_frozen BK417.out 1
            have hfz63_2:=blk_frozen BK417.out 2
            go_wp2
            go_meet
            case rel => exact ⟨_,(wrap64 ((Int.tmod (wrap64 (Int.tdiv a2_0 8)) 8) * 8)),q94_,H',⟨q42_⟩,⟨q107_⟩,⟨q80_⟩,⟨q49_⟩⟩
           replace c62:=Bool.eq_false_iff.mpr c62
           subst c62
           rewrite [if_neg (show ¬ (false = true) by decide)] at H
           have H':=Aside0.mk H
           clear H
           go_wp2
           go_meet
           case rel => exact ⟨_,((-1)),q94_,H',⟨q42_⟩,⟨q107_⟩,⟨q80_⟩,⟨q49_⟩⟩
     clear HC30
     try clear c1
     try clear c2
     try clear p2 p2
     try clear c3
     try clear c4
     try clear c5
     try clear c6
     try clear p6 p6
     try clear c7
     try clear c7b0
     try clear c11
     try clear c11b0
     try clear c11b1
     try clear c13
     try clear c13b0
     try clear c13b1
     try clear c15
     try clear c15b0
     try clear c15b1
     try clear c17
     try clear c17b0
     try clear c17b1
     try clear c21
     try clear c25
     try clear c26
     try clear c35
     try clear c35b0
     try clear c35b1
     try clear c37
     try clear c41
     try clear c41b0
     try clear c41b1
     try clear c42
     try clear c42b0
     try clear c46
     try clear c47
     try clear c47b0
     try clear c48
     try clear c48b0
     try clear c48b1
     try clear c49
     try clear c49b0
     try clear c54
     try clear c57
     try clear c57b0
     try clear c58
     try clear c58b0
     try clear c58b1
     try clear c62
     try clear hcz12_0 hcz12_1 hcz12_2
     try clear hcz14_0 hcz14_1 hcz14_2
     try clear hcz16_0 hcz16_1 hcz16_2
     try clear hcz18_0 hcz18_1 hcz18_2
     try clear hcz19_0 hcz19_1 hcz19_2
     try clear hcz22_0 hcz22_1 hcz22_2
     try clear hcz23_0 hcz23_1 hcz23_2
     try clear hcz31_0 hcz31_1 hcz31_2
     try clear hcz36_0 hcz36_1 hcz36_2
     try clear hcz39_0 hcz39_1 hcz39_2
     try clear hcz43_0 hcz43_1 hcz43_2
     try clear hcz44_0 hcz44_1 hcz44_2
     try clear hcz50_0 hcz50_1 hcz50_2
     try clear hcz51_0 hcz51_1 hcz51_2
     try clear hcz52_0 hcz52_1 hcz52_2
     try clear hcz53_0 hcz53_1 hcz53_2
     try clear hcz55_0 hcz55_1 hcz55_2
     try clear hcz59_0 hcz59_1 hcz59_2
     try clear hcz60_0 hcz60_1 hcz60_2
     try clear hcz61_0 hcz61_1 hcz61_2
     try clear hcz63_0 hcz63_1 hcz63_2
     try clear hfz12_0 hfz12_1 hfz12_2
     try clear hfz14_0 hfz14_1 hfz14_2
     try clear hfz16_0 hfz16_1 hfz16_2
     try clear hfz18_0 hfz18_1 hfz18_2
     try clear hfz19_0 hfz19_1 hfz19_2
     try clear hfz22_0 hfz22_1 hfz22_2
     try clear hfz23_0 hfz23_1 hfz23_2
     try clear hfz31_0 hfz31_1 hfz31_2
     try clear hfz36_0 hfz36_1 hfz36_2
     try clear hfz39_0 hfz39_1 hfz39_2
     try clear hfz43_0 hfz43_1 hfz43_2
     try clear hfz44_0 hfz44_1 hfz44_2
     try clear hfz50_0 hfz50_1 hfz50_2
     try clear hfz51_0 hfz51_1 hfz51_2
     try clear hfz52_0 hfz52_1 hfz52_2
     try clear hfz53_0 hfz53_1 hfz53_2
     try clear hfz55_0 hfz55_1 hfz55_2
     try clear hfz59_0 hfz59_1 hfz59_2
     try clear hfz60_0 hfz60_1 hfz60_2
     try clear hfz61_0 hfz61_1 hfz61_2
     try clear hfz63_0 hfz63_1 hfz63_2
     obtain ⟨kq,x17_29,rfl,HA,HJ29,HO_12,BK417,HB⟩:=hcut
     cases kq with
     | zero => exact absurd HA.out (by simp [spec_l13Next.j8])
     | succ kj29 =>
      have H:=HA.out
      clear HA
      simp only [spec_l13Next.j8] at H
      replace H:=Option.bind_eq_some_iff.mp H
      obtain ⟨t428,A640,H⟩:=H
      have A64:=Aside0.mk A640
      clear A640
      by_cases c65:t428 = true
      ·subst c65
       rewrite [if_pos rfl] at H
       by_cases c66:x12_23.length < 17592186044416
       rotate_left
       ·rw [if_neg c66] at H
        exact absurd H (by simp)
       rw [if_pos c66] at H
       have LMc66:=Aside0.mk c66
       clear c66
       obtain ⟨y429,hy429⟩:∃ y_:List Int,y_ = (x12_23 ++ [x17_29]):=⟨_,rfl⟩
       replace H:(some y429) = some r:=by first | (rw [hy429];exact H) | exact H
       have Ny429:=Aside0.mk hy429
       clear hy429
       obtain rfl:=Option.some.inj H
       go_wp2_with (first | ((with_reducible refine gate_callee (f:=51) rfl ?_);refine goesL_ (some 144) rfl rfl Tryz.func51 (by kernel_rfl) rfl #[.int .i64 x17_29,.int .i64 0,.int .i64 255] rfl q68_ ?_;(with_reducible refine (spec_l1In.calls x17_29 0 255 true _ A64.out).mono ?_);rintro e w' ⟨rfl,⟨nd,rfl⟩⟩;refine ⟨_,rfl,?_⟩) | ((with_reducible refine gate_builtin (b:=.append) (xs:=#[.tmp 145,.tmp 147]) rfl ?_);at_builtin;refine Kd.R_append (Kd.int .i64) (w0:=w) w.heap.size rfl (.tmp 145) (.tmp 147) 40 2 (.int .i64 0) 8 rfl Tryz.underlying40 info2 rfl (by decide) (by omega) u12 x12_23 x17_29 [.int .i64 x17_29] (fun _ => True) (fun _ => False) rfl rfl ?aP (fun _ hk => hk.elim) ?aF ?aO ?aB ?aS ?aL ?_;(case aP => exact rfl);(case aB => exact q49_);(case aF => exact (fun _ _ => trivial));(case aO => exact q107_);(case aS => exact (below_size q49_));(case aL => have:=LMc66.out;omega);intro v430 w67 ho hb hg hat;rw [← Ny429.out] at ho;have n0_:=Aside0.mk (blk_grown (g:=gb417) (o:=.cells #[.int .i64 a2_0,.bool a2_1,.int .i64 a2_2] 30 (0,0)) q80_ hg (Kd.R_ne HO_12.out BK417.out (by decide)));have n1_:=Aside0.mk (hb);have n2_:=Aside0.mk (ho);clear BK417;clear HB;clear HO_12;have BK417:=n0_;have HB:=n1_;have HO431:=n2_;clear n0_ n1_ n2_;clear ho hb hg hat))
       go_ret
       exact ⟨_,q75_,by (with_reducible repeat (first | apply Kd.R_alloc | apply Kd.R_drewN | apply Kd.R_drew));exact HO431.out,q49_⟩
      replace c65:=Bool.eq_false_iff.mpr c65
      subst c65
      rewrite [if_neg (show ¬ (false = true) by decide)] at H
      replace H:=Option.bind_eq_some_iff.mp H
      obtain ⟨t432,A680,H⟩:=H
      have A68:=Aside0.mk A680
      clear A680
      by_cases c69:t432 = true
      ·subst c69
       rewrite [if_pos rfl] at H
       by_cases c70:(wrap64 (Int.tdiv a1 256)) > 0
       ·rw [if_pos c70] at H
        have c70b0:decide (0 < (wrap64 (Int.tdiv a1 256))) = true:=decide_eq_true c70
        clear c70
        by_cases c71:x12_23.length < 17592186044416
        rotate_left
        ·rw [if_neg c71] at H
         exact absurd H (by simp)
        rw [if_pos c71] at H
        have LMc71:=Aside0.mk c71
        clear c71
        obtain ⟨y433,hy433⟩:∃ y_:List Int,y_ = (x12_23 ++ [wrap64 ((wrap64 ((wrap64 ((wrap64 (Int.tdiv a1 256)) * 256)) + x17_29)) - 256)]):=⟨_,rfl⟩
        replace H:(some y433) = some r:=by first | (rw [hy433];exact H) | exact H
        have Ny433:=Aside0.mk hy433
        clear hy433
        obtain rfl:=Option.some.inj H
        go_wp2_with (first | ((with_reducible refine gate_callee (f:=51) rfl ?_);refine goesL_ (some 144) rfl rfl Tryz.func51 (by kernel_rfl) rfl #[.int .i64 x17_29,.int .i64 0,.int .i64 255] rfl q68_ ?_;(with_reducible refine (spec_l1In.calls x17_29 0 255 false _ A64.out).mono ?_);rintro e w' ⟨rfl,⟨nd,rfl⟩⟩;refine ⟨_,rfl,?_⟩) | ((with_reducible refine gate_callee (f:=51) rfl ?_);refine goesL_ (some 151) rfl rfl Tryz.func51 (by kernel_rfl) rfl #[.int .i64 x17_29,.int .i64 256,.int .i64 511] rfl q68_ ?_;(with_reducible refine (spec_l1In.calls x17_29 256 511 true _ A68.out).mono ?_);rintro e w' ⟨rfl,⟨nd,rfl⟩⟩;refine ⟨_,rfl,?_⟩) | ((with_reducible refine gate_builtin (b:=.append) (xs:=#[.tmp 156,.tmp 162]) rfl ?_);at_builtin;refine Kd.R_append (Kd.int .i64) (w0:=w) w.heap.size rfl (.tmp 156) (.tmp 162) 40 2 (.int .i64 0) 8 rfl Tryz.underlying40 info2 rfl (by decide) (by omega) u12 x12_23 (wrap64 ((wrap64 ((wrap64 ((wrap64 (Int.tdiv a1 256)) * 256)) + x17_29)) - 256)) [.int .i64 (wrap64 ((wrap64 ((wrap64 ((wrap64 (Int.tdiv a1 256)) * 256)) + x17_29)) - 256))] (fun _ => True) (fun _ => False) rfl rfl ?aP (fun _ hk => hk.elim) ?aF ?aO ?aB ?aS ?aL ?_;(case aP => exact rfl);(case aB => exact q49_);(case aF => exact (fun _ _ => trivial));(case aO => exact q107_);(case aS => exact (below_size q49_));(case aL => have:=LMc71.out;omega);intro v434 w72 ho hb hg hat;rw [← Ny433.out] at ho;have n0_:=Aside0.mk (blk_grown (g:=gb417) (o:=.cells #[.int .i64 a2_0,.bool a2_1,.int .i64 a2_2] 30 (0,0)) q80_ hg (Kd.R_ne HO_12.out BK417.out (by decide)));have n1_:=Aside0.mk (hb);have n2_:=Aside0.mk (ho);clear BK417;clear HB;clear HO_12;have BK417:=n0_;have HB:=n1_;have HO435:=n2_;clear n0_ n1_ n2_;clear ho hb hg hat))
        go_ret
        exact ⟨_,q75_,by (with_reducible repeat (first | apply Kd.R_alloc | apply Kd.R_drewN | apply Kd.R_drew));exact HO435.out,q49_⟩
       rw [if_neg c70] at H
       have c70b0:decide (0 < (wrap64 (Int.tdiv a1 256))) = false:=decide_eq_false c70
       clear c70
       obtain rfl:=Option.some.inj H
       go_wp2_with (first | ((with_reducible refine gate_callee (f:=51) rfl ?_);refine goesL_ (some 144) rfl rfl Tryz.func51 (by kernel_rfl) rfl #[.int .i64 x17_29,.int .i64 0,.int .i64 255] rfl q68_ ?_;(with_reducible refine (spec_l1In.calls x17_29 0 255 false _ A64.out).mono ?_);rintro e w' ⟨rfl,⟨nd,rfl⟩⟩;refine ⟨_,rfl,?_⟩) | ((with_reducible refine gate_callee (f:=51) rfl ?_);refine goesL_ (some 151) rfl rfl Tryz.func51 (by kernel_rfl) rfl #[.int .i64 x17_29,.int .i64 256,.int .i64 511] rfl q68_ ?_;(with_reducible refine (spec_l1In.calls x17_29 256 511 true _ A68.out).mono ?_);rintro e w' ⟨rfl,⟨nd,rfl⟩⟩;refine ⟨_,rfl,?_⟩))
       go_ret
       exact ⟨_,q75_,q107_,q49_⟩
      replace c69:=Bool.eq_false_iff.mpr c69
      subst c69
      rewrite [if_neg (show ¬ (false = true) by decide)] at H
      obtain rfl:=Option.some.inj H
      go_wp2_with (first | ((with_reducible refine gate_callee (f:=51) rfl ?_);refine goesL_ (some 144) rfl rfl Tryz.func51 (by kernel_rfl) rfl #[.int .i64 x17_29,.int .i64 0,.int .i64 255] rfl q68_ ?_;(with_reducible refine (spec_l1In.calls x17_29 0 255 false _ A64.out).mono ?_);rintro e w' ⟨rfl,⟨nd,rfl⟩⟩;refine ⟨_,rfl,?_⟩) | ((with_reducible refine gate_callee (f:=51) rfl ?_);refine goesL_ (some 151) rfl rfl Tryz.func51 (by kernel_rfl) rfl #[.int .i64 x17_29,.int .i64 256,.int .i64 511] rfl q68_ ?_;(with_reducible refine (spec_l1In.calls x17_29 256 511 false _ A68.out).mono ?_);rintro e w' ⟨rfl,⟨nd,rfl⟩⟩;refine ⟨_,rfl,?_⟩))
      go_ret
      exact ⟨_,q75_,q107_,q49_⟩
end Go.Proofs.YtodlnnoekccmmaaGreatDoor.QFnMarks
