/- The machine's side of a law,written by a program of this session for this claim. -/
import Derived.Test.YtodlnnoekccmmaaGreatDoorKQq
import Derived.Test.YtodlnnoekccmmaaGreatDoorKQFnMarksx0
namespace Go.Proofs.YtodlnnoekccmmaaGreatDoor.QFnMarks
open Go.Proofs.YtodlnnoekccmmaaGreatDoor.Qq
open Go.RowKit Go.Proofs.YtodlnnoekccmmaaGreatDoor.LibX Go.Proofs.YtodlnnoekccmmaaGreatDoor.LibE Go.Proofs.YtodlnnoekccmmaaGreatDoor.LibCB Go.Proofs.YtodlnnoekccmmaaGreatDoorW.PrintWords Go.Proofs.YtodlnnoekccmmaaGreatDoorW.PrintLast Go.Proofs.YtodlnnoekccmmaaGreatDoorW.PrintMore
attribute [local go_sem] max2_int min2_int max_two min_two max_three min_three max_four min_four   -- for this text's walks alone
set_option maxHeartbeats 8000000
set_option maxRecDepth 100000
set_option linter.unusedVariables false
set_option linter.unusedSimpArgs false
mutual
def spec_l3Hole.l0:Nat → ByteArray → List ByteArray → Int → Option (Int × ByteArray)
 | 0,_,_,_ => none
 | k + 1,x0,x4,x5 => if x5 < (x4.length:Int) then (spec_l3Hole.l1 k x0 x4 x5 0) else (some ((-1),(⟨#[]⟩:ByteArray)))
def spec_l3Hole.l1:Nat → ByteArray → List ByteArray → Int → Int → Option (Int × ByteArray)
 | 0,_,_,_,_ => none
 | k + 1,x0,x4,x5,x6 => if 0 ≤ x5 then (if x5 < (x4.length:Int) then (if (wrap64 (x6 + ((rdOf ByteArray.empty x4 x5).size:Int))) ≤ (x0.size:Int) then (if 0 ≤ x6 then (if x6 ≤ (wrap64 (x6 + ((rdOf ByteArray.empty x4 x5).size:Int))) then (if (x0.extract (x6:Int).toNat ((wrap64 (x6 + ((rdOf ByteArray.empty x4 x5).size:Int))):Int).toNat).toList = (rdOf ByteArray.empty x4 x5).toList then (some (x6,rdOf ByteArray.empty x4 x5)) else (spec_l3Hole.l1 k x0 x4 x5 (wrap64 (x6 + 1)))) else (none)) else (none)) else (spec_l3Hole.l0 k x0 x4 (wrap64 (x5 + 1)))) else (none)) else (none)
end
def spec_l3Hole.f (k:Nat) (a0:ByteArray):Option (Int × ByteArray):=spec_l3Hole.l0 k a0 (([(⟨#[110,49,54]⟩:ByteArray),(⟨#[110,56]⟩:ByteArray),(⟨#[101,56]⟩:ByteArray)]:List ByteArray)) 0
theorem spec_l3Hole.mono_l:∀ k,(∀ y0 y1 y2,LeO (spec_l3Hole.l0 k y0 y1 y2) (spec_l3Hole.l0 (k + 1) y0 y1 y2)) ∧ (∀ y0 y1 y2 y3,LeO (spec_l3Hole.l1 k y0 y1 y2 y3) (spec_l3Hole.l1 (k + 1) y0 y1 y2 y3))
 | 0 => ⟨fun _ _ _ r h => by simp [spec_l3Hole.l0] at h,fun _ _ _ _ r h => by simp [spec_l3Hole.l1] at h⟩
 | k + 1 => by
  obtain ⟨ih0,ih1⟩:=spec_l3Hole.mono_l k
  refine ⟨?_,?_⟩
  ·intro y0 y1 y2
   unfold spec_l3Hole.l0
   repeat' first
   | (with_reducible first | exact ih0 _ _ _ | exact ih1 _ _ _ _ | exact LeO.refl _ | exact LeO.none _ | refine LeO.ite ?_ ?_ | refine LeO.bind ?_ (fun _ => ?_))
   | exact ih0 _ _ _
   | exact ih1 _ _ _ _
   | exact LeO.none _
   | refine LeO.ite ?_ ?_
   | refine LeO.bind ?_ (fun _ => ?_)
  intro y0 y1 y2 y3
  unfold spec_l3Hole.l1
  repeat' first
  | (with_reducible first | exact ih0 _ _ _ | exact ih1 _ _ _ _ | exact LeO.refl _ | exact LeO.none _ | refine LeO.ite ?_ ?_ | refine LeO.bind ?_ (fun _ => ?_))
  | exact ih0 _ _ _
  | exact ih1 _ _ _ _
  | exact LeO.none _
  | refine LeO.ite ?_ ?_
  | refine LeO.bind ?_ (fun _ => ?_)
theorem spec_l3Hole.mono:∀ a0 k,LeO (spec_l3Hole.f k a0) (spec_l3Hole.f (k + 1) a0):=by
 intro a0 k
 obtain ⟨ih0,ih1⟩:=spec_l3Hole.mono_l k
 unfold spec_l3Hole.f
 repeat' first
   | (with_reducible first | exact ih0 _ _ _ | exact ih1 _ _ _ _ | exact LeO.refl _ | exact LeO.none _ | refine LeO.ite ?_ ?_ | refine LeO.bind ?_ (fun _ => ?_))
   | exact ih0 _ _ _
   | exact ih1 _ _ _ _
   | exact LeO.none _
   | refine LeO.ite ?_ ?_
   | refine LeO.bind ?_ (fun _ => ?_)
theorem spec_l3Hole.calls (k:Nat) (a0:ByteArray) (r1:Int) (r2:ByteArray) (w:World) (h:spec_l3Hole.f k a0 = some (r1,r2)) :
  Calls Tryz.prog 59 #[.string a0] w fun e w' => e = .returned (.tuple #[.int .i64 r1,.string r2]) ∧ Below w.heap.size w w':=by
 have HB:=Aside0.mk (Below.refl w.heap.size w)
 have H:=h;unfold spec_l3Hole.f at H
 clear h
 obtain ⟨y253,hy253⟩:∃ y_:List ByteArray,y_ = (([(⟨#[110,49,54]⟩:ByteArray),(⟨#[110,56]⟩:ByteArray),(⟨#[101,56]⟩:ByteArray)]:List ByteArray)):=⟨_,rfl⟩
 replace H:(spec_l3Hole.l0 k a0 y253 0) = some (r1,r2):=by first | (rw [hy253];exact H) | exact H
 have Ny253:=Aside0.mk hy253
 clear hy253
 have H':=Aside0.mk H
 clear H
 go_enter Tryz.func59,Tryz.ntmps59
 go_wp2_with (first | ((with_reducible refine gate_dst (N:=7) rfl ?_);refine Kd.R_lit Kd.string _ 9 ?hg (N:=7) ?hd (xs:=([(⟨#[110,49,54]⟩:ByteArray),(⟨#[110,56]⟩:ByteArray),(⟨#[101,56]⟩:ByteArray)]:List ByteArray)) (inner:=[.string (⟨#[110,49,54]⟩:ByteArray),.string (⟨#[110,56]⟩:ByteArray),.string (⟨#[101,56]⟩:ByteArray)]) (ok:=fun _ => True) (okp:=fun _ => True) ?hr ?hp (fun _ hk => hk) trivial (Below.refl _ _) (Nat.le_refl _) (by simp) ?_;(case hd => rfl);(case hg => rfl);(case hr => exact q153_);(case hp => exact q139_);intro v254 w2 ho3 hb hg_ hnew_;clear hg_ hnew_;(first | rw [← Ny253.out] at ho3 | (simp only [Int.reduceToNat] at ho3;rw [← Ny253.out] at ho3));have n0_:=Aside0.mk (Kd.R_lower ho3 (below_size q70_));have n1_:=Aside0.mk (below_step q70_ hb);clear HB;have HO255:=n0_;have HB:=n1_;clear n0_ n1_;clear hb ho3))
 repeat (go_quiet (first | ((with_reducible refine gate_dst (N:=7) rfl ?_);refine Kd.R_lit Kd.string _ 9 ?hg (N:=7) ?hd (xs:=([(⟨#[110,49,54]⟩:ByteArray),(⟨#[110,56]⟩:ByteArray),(⟨#[101,56]⟩:ByteArray)]:List ByteArray)) (inner:=[.string (⟨#[110,49,54]⟩:ByteArray),.string (⟨#[110,56]⟩:ByteArray),.string (⟨#[101,56]⟩:ByteArray)]) (ok:=fun _ => True) (okp:=fun _ => True) ?hr ?hp (fun _ hk => hk) trivial (Below.refl _ _) (Nat.le_refl _) (by simp) ?_;(case hd => rfl);(case hg => rfl);(case hr => exact q153_);(case hp => exact q139_);intro v254 w2 ho3 hb hg_ hnew_;clear hg_ hnew_;(first | rw [← Ny253.out] at ho3 | (simp only [Int.reduceToNat] at ho3;rw [← Ny253.out] at ho3));have n0_:=Aside0.mk (Kd.R_lower ho3 (below_size q70_));have n1_:=Aside0.mk (below_step q70_ hb);clear HB;have HO255:=n0_;have HB:=n1_;clear n0_ n1_;clear hb ho3));try go_wp2_with (first | ((with_reducible refine gate_dst (N:=7) rfl ?_);refine Kd.R_lit Kd.string _ 9 ?hg (N:=7) ?hd (xs:=([(⟨#[110,49,54]⟩:ByteArray),(⟨#[110,56]⟩:ByteArray),(⟨#[101,56]⟩:ByteArray)]:List ByteArray)) (inner:=[.string (⟨#[110,49,54]⟩:ByteArray),.string (⟨#[110,56]⟩:ByteArray),.string (⟨#[101,56]⟩:ByteArray)]) (ok:=fun _ => True) (okp:=fun _ => True) ?hr ?hp (fun _ hk => hk) trivial (Below.refl _ _) (Nat.le_refl _) (by simp) ?_;(case hd => rfl);(case hg => rfl);(case hr => exact q153_);(case hp => exact q139_);intro v254 w2 ho3 hb hg_ hnew_;clear hg_ hnew_;(first | rw [← Ny253.out] at ho3 | (simp only [Int.reduceToNat] at ho3;rw [← Ny253.out] at ho3));have n0_:=Aside0.mk (Kd.R_lower ho3 (below_size q70_));have n1_:=Aside0.mk (below_step q70_ hb);clear HB;have HO255:=n0_;have HB:=n1_;clear n0_ n1_;clear hb ho3)))
 go_loopg [5] k (fun kq v5 w' => ∃ (x5_1:Int),v5 = .int .i64 x5_1 ∧ Aside0 (spec_l3Hole.l0 kq a0 y253 x5_1 = some (r1,r2)) ∧ Aside0 (kq ≤ k) ∧ Aside0 (Kd.R Kd.string 9 w' w.heap.size (fun _ => True) v254 y253) ∧ Aside0 (Below w.heap.size w w'))
 case atStart => exact ⟨(0),q94_,H',⟨Nat.le_refl _⟩,⟨by (with_reducible repeat (first | apply Kd.R_alloc | apply Kd.R_drewN | apply Kd.R_drew));exact HO255.out⟩,⟨q70_⟩⟩
 clear H'
 try clear p2
 obtain ⟨x5_1,rfl,HA,HK1,HO_4,HB⟩:=hrel
 cases gk with
 | zero => exact absurd HA.out (by simp [spec_l3Hole.l0])
 | succ k1 =>
  have H:=HA.out
  clear HA
  simp only [spec_l3Hole.l0] at H
  by_cases c4:x5_1 < (y253.length:Int)
  ·rw [if_pos c4] at H
   have c4b0:=decide_eq_true c4
   clear c4
   have H':=Aside0.mk H
   clear H
   obtain ⟨Ao5,co5,eo5⟩:=Kd.R_slice HO_4.out
   subst eo5
   go_wp2
   repeat (go_quiet (fail);try go_wp2)
   go_loopg [6] k1 (fun kq v6 w' => ∃ (x6_2:Int),v6 = .int .i64 x6_2 ∧ Aside0 (spec_l3Hole.l1 kq a0 y253 x5_1 x6_2 = some (r1,r2)) ∧ Aside0 (kq ≤ k1) ∧ Aside0 (Kd.R Kd.string 9 w' w.heap.size (fun _ => True) (.slice Ao5 y253.length co5) y253) ∧ Aside0 (Below w.heap.size w w'))
   case atStart => exact ⟨(0),q94_,H',⟨Nat.le_refl _⟩,⟨q111_⟩,⟨q70_⟩⟩
   clear H'
   try clear p2 p2
   try clear c4
   try clear c4b0
   try clear c5
   obtain ⟨x6_2,rfl,HA,HK2,HO_4,HB⟩:=hrel
   cases gk with
   | zero => exact absurd HA.out (by simp [spec_l3Hole.l1])
   | succ k2 =>
    have H:=HA.out
    clear HA
    simp only [spec_l3Hole.l1] at H
    by_cases c6:0 ≤ x5_1
    rotate_left
    ·rw [if_neg c6] at H
     exact absurd H (by simp)
    rw [if_pos c6] at H
    have c6b0:=decide_eq_true c6
    clear c6
    by_cases c7:x5_1 < (y253.length:Int)
    rotate_left
    ·rw [if_neg c7] at H
     exact absurd H (by simp)
    rw [if_pos c7] at H
    have c7b0:=decide_eq_true c7
    clear c7
    by_cases c8:(wrap64 (x6_2 + ((rdOf ByteArray.empty y253 x5_1).size:Int))) ≤ (a0.size:Int)
    ·rw [if_pos c8] at H
     have c8b0:=decide_eq_true c8
     clear c8
     by_cases c9:0 ≤ x6_2
     rotate_left
     ·rw [if_neg c9] at H
      exact absurd H (by simp)
     rw [if_pos c9] at H
     have c9b0:=eq_true c9
     have c9b1:=decide_eq_true c9
     clear c9
     by_cases c10:x6_2 ≤ (wrap64 (x6_2 + ((rdOf ByteArray.empty y253 x5_1).size:Int)))
     rotate_left
     ·rw [if_neg c10] at H
      exact absurd H (by simp)
     rw [if_pos c10] at H
     have c10b0:=eq_true c10
     have c10b1:=decide_eq_true c10
     have c11b0:=eq_true (of_decide_eq_true q119_:(wrap64 (x6_2 + ((rdOf ByteArray.empty y253 x5_1).size:Int))) ≤ (a0.size:Int))
     by_cases c12:(a0.extract (x6_2:Int).toNat ((wrap64 (x6_2 + ((rdOf ByteArray.empty y253 x5_1).size:Int))):Int).toNat).toList = (rdOf ByteArray.empty y253 x5_1).toList
     ·rw [if_pos c12] at H
      have c12b0:((a0.extract (x6_2:Int).toNat ((wrap64 (x6_2 + ((rdOf ByteArray.empty y253 x5_1).size:Int))):Int).toNat).toList == (rdOf ByteArray.empty y253 x5_1).toList) = true:=beq_iff_eq.mpr c12
      have c12b1:((a0.extract (x6_2:Int).toNat ((wrap64 (x6_2 + ((rdOf ByteArray.empty y253 x5_1).size:Int))):Int).toNat).toList != (rdOf ByteArray.empty y253 x5_1).toList) = false:=bne_eq_false_iff_eq.mpr c12
      clear c12
      simp only [Option.some.injEq,Prod.mk.injEq] at H
      obtain ⟨rfl,rfl⟩:=H
      have p256:0 ≤ (x5_1:Int):=of_decide_eq_true q119_
      have q256:x5_1 < (y253.length:Int):=of_decide_eq_true q119_
      obtain ⟨ad256,e256,hx256_0⟩:=Kd.at_string (Kd.R_reads' HO_4.out).2.2 x5_1 p256 q256
      cases e256
      replace p256:=eq_true p256
      replace q256:=eq_true q256
      have p257:0 ≤ (x5_1:Int):=of_decide_eq_true q119_
      have q257:x5_1 < (y253.length:Int):=of_decide_eq_true q119_
      obtain ⟨ad257,e257,hx257_0⟩:=Kd.at_string (Kd.R_reads' HO_4.out).2.2 x5_1 p257 q257
      obtain rfl:ad256 = ad257:=(by injection e257)
      replace p257:=eq_true p257
      replace q257:=eq_true q257
      have p258:0 ≤ (x5_1:Int):=of_decide_eq_true q119_
      have q258:x5_1 < (y253.length:Int):=of_decide_eq_true q119_
      obtain ⟨ad258,e258,hx258_0⟩:=Kd.at_string (Kd.R_reads' HO_4.out).2.2 x5_1 p258 q258
      obtain rfl:ad256 = ad258:=(by injection e258)
      replace p258:=eq_true p258
      replace q258:=eq_true q258
      have p259:0 ≤ (x5_1:Int):=of_decide_eq_true q119_
      have q259:x5_1 < (y253.length:Int):=of_decide_eq_true q119_
      obtain ⟨ad259,e259,hx259_0⟩:=Kd.at_string (Kd.R_reads' HO_4.out).2.2 x5_1 p259 q259
      obtain rfl:ad256 = ad259:=(by injection e259)
      replace p259:=eq_true p259
      replace q259:=eq_true q259
      go_wp2
      repeat (go_quiet (fail);try go_wp2)
      go_ret2
      exact ⟨q75_,q70_⟩
     rw [if_neg c12] at H
     have c12b0:((a0.extract (x6_2:Int).toNat ((wrap64 (x6_2 + ((rdOf ByteArray.empty y253 x5_1).size:Int))):Int).toNat).toList == (rdOf ByteArray.empty y253 x5_1).toList) = false:=beq_eq_false_iff_ne.mpr c12
     have c12b1:((a0.extract (x6_2:Int).toNat ((wrap64 (x6_2 + ((rdOf ByteArray.empty y253 x5_1).size:Int))):Int).toNat).toList != (rdOf ByteArray.empty y253 x5_1).toList) = true:=bne_iff_ne.mpr c12
     have H':=Aside0.mk H
     clear H
     have p256:0 ≤ (x5_1:Int):=of_decide_eq_true q119_
     have q256:x5_1 < (y253.length:Int):=of_decide_eq_true q119_
     obtain ⟨ad256,e256,hx256_0⟩:=Kd.at_string (Kd.R_reads' HO_4.out).2.2 x5_1 p256 q256
     cases e256
     replace p256:=eq_true p256
     replace q256:=eq_true q256
     have p257:0 ≤ (x5_1:Int):=of_decide_eq_true q119_
     have q257:x5_1 < (y253.length:Int):=of_decide_eq_true q119_
     obtain ⟨ad257,e257,hx257_0⟩:=Kd.at_string (Kd.R_reads' HO_4.out).2.2 x5_1 p257 q257
     obtain rfl:ad256 = ad257:=(by injection e257)
     replace p257:=eq_true p257
     replace q257:=eq_true q257
     have p258:0 ≤ (x5_1:Int):=of_decide_eq_true q119_
     have q258:x5_1 < (y253.length:Int):=of_decide_eq_true q119_
     obtain ⟨ad258,e258,hx258_0⟩:=Kd.at_string (Kd.R_reads' HO_4.out).2.2 x5_1 p258 q258
     obtain rfl:ad256 = ad258:=(by injection e258)
     replace p258:=eq_true p258
     replace q258:=eq_true q258
     go_wp2
     repeat (go_quiet (fail);try go_wp2)
     go_roundg k2
     case measure => have:=HK1.out;have:=HK2.out;omega
     case rel => exact ⟨(wrap64 (x6_2 + 1)),q94_,H',⟨q131_⟩,⟨q111_⟩,⟨q70_⟩⟩
    rw [if_neg c8] at H
    have c8b0:=decide_eq_false c8
    clear c8
    have H':=Aside0.mk H
    clear H
    have p256:0 ≤ (x5_1:Int):=of_decide_eq_true q119_
    have q256:x5_1 < (y253.length:Int):=of_decide_eq_true q119_
    obtain ⟨ad256,e256,hx256_0⟩:=Kd.at_string (Kd.R_reads' HO_4.out).2.2 x5_1 p256 q256
    cases e256
    replace p256:=eq_true p256
    replace q256:=eq_true q256
    go_wp2
    repeat (go_quiet (fail);try go_wp2)
    go_roundg k2
    case measure => have:=HK1.out;have:=HK2.out;omega
    case rel => exact ⟨(wrap64 (x5_1 + 1)),q94_,H',⟨q131_⟩,⟨q111_⟩,⟨q70_⟩⟩
  rw [if_neg c4] at H
  have c4b0:=decide_eq_false c4
  clear c4
  simp only [Option.some.injEq,Prod.mk.injEq] at H
  obtain ⟨rfl,rfl⟩:=H
  obtain ⟨Ao13,co13,eo13⟩:=Kd.R_slice HO_4.out
  subst eo13
  go_wp2
  repeat (go_quiet (fail);try go_wp2)
  go_ret2
  exact ⟨q75_,q70_⟩
mutual
def spec_l1Dec.l0:Nat → Int → ByteArray → Option (ByteArray)
 | 0,_,_ => none
 | k + 1,x0,x3 => if x0 ≥ 10 then ((some (([(wrap64 (48 + (Int.tmod x0 10))) % 256]:List Int):List Int)).bind fun y261 => (if (strOfNums y261).size + x3.size ≤ 9223372036854775807 then (spec_l1Dec.l0 k (wrap64 (Int.tdiv x0 10)) ((strOfNums y261) ++ x3)) else (none))) else ((some (([(wrap64 (48 + x0)) % 256]:List Int):List Int)).bind fun y264 => (if (strOfNums y264).size + x3.size ≤ 9223372036854775807 then (some ((strOfNums y264) ++ x3)) else (none)))
def spec_l1Dec.f:Nat → Int → Option (ByteArray)
 | 0,_ => none
 | k + 1,a0 => if a0 < 0 then ((spec_l1Dec.f k (wrap64 (-a0))).bind fun t260 => (if 1 + t260.size ≤ 9223372036854775807 then (some ((⟨#[45]⟩:ByteArray) ++ t260)) else (none))) else (spec_l1Dec.l0 k a0 (⟨#[]⟩:ByteArray))
end
theorem spec_l1Dec.mono_l:∀ k,(∀ y0,LeO (spec_l1Dec.f k y0) (spec_l1Dec.f (k + 1) y0)) ∧ (∀ y0 y1,LeO (spec_l1Dec.l0 k y0 y1) (spec_l1Dec.l0 (k + 1) y0 y1))
 | 0 => ⟨fun _ r h => by simp [spec_l1Dec.f] at h,fun _ _ r h => by simp [spec_l1Dec.l0] at h⟩
 | k + 1 => by
  obtain ⟨ih0,ih1⟩:=spec_l1Dec.mono_l k
  refine ⟨?_,?_⟩
  ·intro y0
   unfold spec_l1Dec.f
   repeat' first
   | (with_reducible first | exact ih0 _ | exact ih1 _ _ | exact LeO.refl _ | exact LeO.none _ | refine LeO.ite ?_ ?_ | refine LeO.bind ?_ (fun _ => ?_))
   | exact ih0 _
   | exact ih1 _ _
   | exact LeO.none _
   | refine LeO.ite ?_ ?_
   | refine LeO.bind ?_ (fun _ => ?_)
  intro y0 y1
  unfold spec_l1Dec.l0
  repeat' first
  | (with_reducible first | exact ih0 _ | exact ih1 _ _ | exact LeO.refl _ | exact LeO.none _ | refine LeO.ite ?_ ?_ | refine LeO.bind ?_ (fun _ => ?_))
  | exact ih0 _
  | exact ih1 _ _
  | exact LeO.none _
  | refine LeO.ite ?_ ?_
  | refine LeO.bind ?_ (fun _ => ?_)
theorem spec_l1Dec.mono:∀ a0 k,LeO (spec_l1Dec.f k a0) (spec_l1Dec.f (k + 1) a0):=by
 intro a0 k
 obtain ⟨ih0,ih1⟩:=spec_l1Dec.mono_l k
 exact ih0 a0
theorem spec_l1Dec.calls (k:Nat):∀ (a0:Int) (r:ByteArray) (w:World) (h:spec_l1Dec.f k a0 = some r),
  Calls Tryz.prog 71 #[.int .i64 a0] w fun e w' => e = .returned (.string r) ∧ Below w.heap.size w w':=by
 induction k using Nat.strongRecOn with
 | _ k ih =>
 intro a0 r w h
 cases k with
 | zero => exact absurd h (by simp [spec_l1Dec.f])
 | succ k =>
 simp only [spec_l1Dec.f] at h
 have HB:=Aside0.mk (Below.refl w.heap.size w)
 have H:(if a0 < 0 then ((spec_l1Dec.f k (wrap64 (-a0))).bind fun t260 => (if 1 + t260.size ≤ 9223372036854775807 then (some ((⟨#[45]⟩:ByteArray) ++ t260)) else (none))) else (spec_l1Dec.l0 k a0 (⟨#[]⟩:ByteArray))) = some r:=h
 clear h
 by_cases c2:a0 < 0
 ·rw [if_pos c2] at H
  have c2b0:=decide_eq_true c2
  clear c2
  replace H:=Option.bind_eq_some_iff.mp H
  obtain ⟨t260,A30,H⟩:=H
  have A3:=Aside0.mk A30
  clear A30
  by_cases c4:1 + t260.size ≤ 9223372036854775807
  rotate_left
  ·rw [if_neg c4] at H
   exact absurd H (by simp)
  rw [if_pos c4] at H
  have c4b0:=eq_true c4
  have c4b1:=decide_eq_true c4
  try have c4b2:(9223372036854775807 < 1 + t260.size) = False:=eq_false (Nat.not_lt.2 c4)
  obtain rfl:=Option.some.inj H
  go_enter Tryz.func71,Tryz.ntmps71
  go_wp2_with (first | ((with_reducible refine gate_callee (f:=71) rfl ?_);refine goesL_ (some 8) rfl rfl Tryz.func71 (by kernel_rfl) rfl #[.int .i64 (wrap64 (-a0))] rfl (by (try simp only [List.map_toArray,List.map_cons,List.map_nil]);first | done | rfl | (simp only [List.length_drop,List.length_take];rfl) | (refine Eq.trans (b:=#[.int .i64 ((-a0))]) rfl ?_;simp [wrap64] <;> omega)) ?_;(with_reducible refine (ih k (by omega) (wrap64 (-a0)) t260 _ A3.out).mono ?_);rintro e w5 ⟨rfl,hb⟩;refine ⟨_,rfl,?_⟩;replace HB:=Aside0.mk (below_step q70_ hb);(try clear hb)))
  go_ret
  exact ⟨q75_,q70_⟩
 rw [if_neg c2] at H
 have c2b0:=decide_eq_false c2
 clear c2
 have H':=Aside0.mk H
 clear H
 go_enter Tryz.func71,Tryz.ntmps71
 go_wp2
 go_loopg [0,3] k (fun kq v0 v3 w' => ∃ (x0_1:Int) (x3_1:ByteArray),v0 = .int .i64 x0_1 ∧ v3 = .string x3_1 ∧ Aside0 (spec_l1Dec.l0 kq x0_1 x3_1 = some r) ∧ Aside0 (kq ≤ k) ∧ Aside0 (Below w.heap.size w w'))
 case atStart => exact ⟨(a0),((⟨#[]⟩:ByteArray)),q94_,q94_,H',⟨Nat.le_refl _⟩,⟨q70_⟩⟩
 clear H'
 try clear c2
 try clear c2b0
 try clear p2
 try clear c4
 try clear c4b0
 try clear c4b1
 try clear c4b2
 obtain ⟨x0_1,x3_1,rfl,rfl,HA,HK1,HB⟩:=hrel
 cases gk with
 | zero => exact absurd HA.out (by simp [spec_l1Dec.l0])
 | succ k1 =>
  have H:=HA.out
  clear HA
  simp only [spec_l1Dec.l0] at H
  by_cases c6:x0_1 ≥ 10
  ·rw [if_pos c6] at H
   have c6b0:decide (10 ≤ x0_1) = true:=decide_eq_true c6
   clear c6
   obtain ⟨y261,hy261⟩:∃ y_:List Int,y_ = (([(wrap64 (48 + (Int.tmod x0_1 10))) % 256]:List Int)):=⟨_,rfl⟩
   replace H:(if (strOfNums y261).size + x3_1.size ≤ 9223372036854775807 then (spec_l1Dec.l0 k1 (wrap64 (Int.tdiv x0_1 10)) ((strOfNums y261) ++ x3_1)) else (none)) = some r:=by first | (rw [hy261];exact H) | exact H
   have Ny261:=Aside0.mk hy261
   clear hy261
   by_cases c7:(strOfNums y261).size + x3_1.size ≤ 9223372036854775807
   rotate_left
   ·rw [if_neg c7] at H
    exact absurd H (by simp)
   rw [if_pos c7] at H
   have c7b0:=eq_true c7
   have c7b1:=decide_eq_true c7
   try have c7b2:(9223372036854775807 < (strOfNums y261).size + x3_1.size) = False:=eq_false (Nat.not_lt.2 c7)
   have H':=Aside0.mk H
   clear H
   go_wp2_with (first | ((with_reducible refine gate_dst (N:=16) rfl ?_);refine Kd.R_lit (Kd.int .u8) _ 5 ?hg (N:=16) ?hd (xs:=([(wrap64 (48 + (Int.tmod x0_1 10))) % 256]:List Int)) (inner:=[.int .u8 ((wrap64 (48 + (Int.tmod x0_1 10))) % 256)]) (ok:=fun _ => True) (okp:=fun _ => True) ?hr ?hp (fun _ hk => hk) trivial (Below.refl _ _) (Nat.le_refl _) (by simp) ?_;(case hd => rfl);(case hg => rfl);(case hr => exact q153_);(case hp => exact (Reps.one (show Kd.M (Kd.int .u8) _ _ _ ((wrap64 (48 + (Int.tmod x0_1 10))) % 256) [.int .u8 ((wrap64 (48 + (Int.tmod x0_1 10))) % 256)] from rfl) (Reps.none _ _)));intro v262 w8 ho9 hb hg_ hnew_;clear hg_ hnew_;(first | rw [← Ny261.out] at ho9 | (simp only [Int.reduceToNat] at ho9;rw [← Ny261.out] at ho9));have n0_:=Aside0.mk (Kd.R_lower ho9 (below_size q70_));have n1_:=Aside0.mk (below_step q70_ hb);clear HB;have HO263:=n0_;have HB:=n1_;clear n0_ n1_;clear hb ho9;have hcv10:=own_string (P:=Tryz.prog) Tryz.underlying22 Tryz.underlying5 Tryz.underlying9 (Kd.own_of_R HO263.out);have hcvq10:=fun m_:Nat => own_string (P:=Tryz.prog) Tryz.underlying22 Tryz.underlying5 Tryz.underlying9 (Kd.own_of_R (Kd.R_drewN HO263.out m_))))
   go_roundg k1
   case measure => have:=HK1.out;omega
   case rel => exact ⟨(wrap64 (Int.tdiv x0_1 10)),((strOfNums y261) ++ x3_1),q94_,q94_,H',⟨by have:=HK1.out;omega⟩,⟨q70_⟩⟩
  rw [if_neg c6] at H
  have c6b0:decide (10 ≤ x0_1) = false:=decide_eq_false c6
  clear c6
  obtain ⟨y264,hy264⟩:∃ y_:List Int,y_ = (([(wrap64 (48 + x0_1)) % 256]:List Int)):=⟨_,rfl⟩
  replace H:(if (strOfNums y264).size + x3_1.size ≤ 9223372036854775807 then (some ((strOfNums y264) ++ x3_1)) else (none)) = some r:=by first | (rw [hy264];exact H) | exact H
  have Ny264:=Aside0.mk hy264
  clear hy264
  by_cases c11:(strOfNums y264).size + x3_1.size ≤ 9223372036854775807
  rotate_left
  ·rw [if_neg c11] at H
   exact absurd H (by simp)
  rw [if_pos c11] at H
  have c11b0:=eq_true c11
  have c11b1:=decide_eq_true c11
  try have c11b2:(9223372036854775807 < (strOfNums y264).size + x3_1.size) = False:=eq_false (Nat.not_lt.2 c11)
  obtain rfl:=Option.some.inj H
  go_wp2_with (first | ((with_reducible refine gate_dst (N:=25) rfl ?_);refine Kd.R_lit (Kd.int .u8) _ 5 ?hg (N:=25) ?hd (xs:=([(wrap64 (48 + x0_1)) % 256]:List Int)) (inner:=[.int .u8 ((wrap64 (48 + x0_1)) % 256)]) (ok:=fun _ => True) (okp:=fun _ => True) ?hr ?hp (fun _ hk => hk) trivial (Below.refl _ _) (Nat.le_refl _) (by simp) ?_;(case hd => rfl);(case hg => rfl);(case hr => exact q153_);(case hp => exact (Reps.one (show Kd.M (Kd.int .u8) _ _ _ ((wrap64 (48 + x0_1)) % 256) [.int .u8 ((wrap64 (48 + x0_1)) % 256)] from rfl) (Reps.none _ _)));intro v265 w12 ho13 hb hg_ hnew_;clear hg_ hnew_;(first | rw [← Ny264.out] at ho13 | (simp only [Int.reduceToNat] at ho13;rw [← Ny264.out] at ho13));have n0_:=Aside0.mk (Kd.R_lower ho13 (below_size q70_));have n1_:=Aside0.mk (below_step q70_ hb);clear HB;have HO266:=n0_;have HB:=n1_;clear n0_ n1_;clear hb ho13;have hcv14:=own_string (P:=Tryz.prog) Tryz.underlying22 Tryz.underlying5 Tryz.underlying9 (Kd.own_of_R HO266.out);have hcvq14:=fun m_:Nat => own_string (P:=Tryz.prog) Tryz.underlying22 Tryz.underlying5 Tryz.underlying9 (Kd.own_of_R (Kd.R_drewN HO266.out m_))))
  go_ret
  exact ⟨q75_,q70_⟩
def spec_l3Turns.f :Option (List ByteArray):=some (([(⟨#[114,108,99]⟩:ByteArray),(⟨#[114,114,99]⟩:ByteArray),(⟨#[114,108]⟩:ByteArray),(⟨#[114,114]⟩:ByteArray),(⟨#[115,108,97]⟩:ByteArray),(⟨#[115,114,97]⟩:ByteArray),(⟨#[115,119,97,112]⟩:ByteArray),(⟨#[115,114,108]⟩:ByteArray)]:List ByteArray))
theorem spec_l3Turns.calls  (r:List ByteArray) (w:World) (h:spec_l3Turns.f  = some r) :
  Calls Tryz.prog 99 #[] w fun e w' => ∃ v0_:Value,e = .returned (v0_) ∧ Kd.R Kd.string 9 w' w.heap.size (fun _ => True) v0_ r ∧ Below w.heap.size w w':=by
 have HB:=Aside0.mk (Below.refl w.heap.size w)
 have H:=h;unfold spec_l3Turns.f at H
 clear h
 obtain ⟨y267,hy267⟩:∃ y_:List ByteArray,y_ = (([(⟨#[114,108,99]⟩:ByteArray),(⟨#[114,114,99]⟩:ByteArray),(⟨#[114,108]⟩:ByteArray),(⟨#[114,114]⟩:ByteArray),(⟨#[115,108,97]⟩:ByteArray),(⟨#[115,114,97]⟩:ByteArray),(⟨#[115,119,97,112]⟩:ByteArray),(⟨#[115,114,108]⟩:ByteArray)]:List ByteArray)):=⟨_,rfl⟩
 replace H:(some y267) = some r:=by first | (rw [hy267];exact H) | exact H
 have Ny267:=Aside0.mk hy267
 clear hy267
 obtain rfl:=Option.some.inj H
 go_enter Tryz.func99,Tryz.ntmps99
 go_wp2_with (first | ((with_reducible refine gate_dst (N:=1) rfl ?_);refine Kd.R_lit Kd.string _ 9 ?hg (N:=1) ?hd (xs:=([(⟨#[114,108,99]⟩:ByteArray),(⟨#[114,114,99]⟩:ByteArray),(⟨#[114,108]⟩:ByteArray),(⟨#[114,114]⟩:ByteArray),(⟨#[115,108,97]⟩:ByteArray),(⟨#[115,114,97]⟩:ByteArray),(⟨#[115,119,97,112]⟩:ByteArray),(⟨#[115,114,108]⟩:ByteArray)]:List ByteArray)) (inner:=[.string (⟨#[114,108,99]⟩:ByteArray),.string (⟨#[114,114,99]⟩:ByteArray),.string (⟨#[114,108]⟩:ByteArray),.string (⟨#[114,114]⟩:ByteArray),.string (⟨#[115,108,97]⟩:ByteArray),.string (⟨#[115,114,97]⟩:ByteArray),.string (⟨#[115,119,97,112]⟩:ByteArray),.string (⟨#[115,114,108]⟩:ByteArray)]) (ok:=fun _ => True) (okp:=fun _ => True) ?hr ?hp (fun _ hk => hk) trivial (Below.refl _ _) (Nat.le_refl _) (by simp) ?_;(case hd => rfl);(case hg => rfl);(case hr => exact q153_);(case hp => exact (Reps.one (show Kd.M Kd.string _ _ _ (⟨#[114,108,99]⟩:ByteArray) [.string (⟨#[114,108,99]⟩:ByteArray)] from rfl) (Reps.one (show Kd.M Kd.string _ _ _ (⟨#[114,114,99]⟩:ByteArray) [.string (⟨#[114,114,99]⟩:ByteArray)] from rfl) (Reps.one (show Kd.M Kd.string _ _ _ (⟨#[114,108]⟩:ByteArray) [.string (⟨#[114,108]⟩:ByteArray)] from rfl) (Reps.one (show Kd.M Kd.string _ _ _ (⟨#[114,114]⟩:ByteArray) [.string (⟨#[114,114]⟩:ByteArray)] from rfl) (Reps.one (show Kd.M Kd.string _ _ _ (⟨#[115,108,97]⟩:ByteArray) [.string (⟨#[115,108,97]⟩:ByteArray)] from rfl) (Reps.one (show Kd.M Kd.string _ _ _ (⟨#[115,114,97]⟩:ByteArray) [.string (⟨#[115,114,97]⟩:ByteArray)] from rfl) (Reps.one (show Kd.M Kd.string _ _ _ (⟨#[115,119,97,112]⟩:ByteArray) [.string (⟨#[115,119,97,112]⟩:ByteArray)] from rfl) (Reps.one (show Kd.M Kd.string _ _ _ (⟨#[115,114,108]⟩:ByteArray) [.string (⟨#[115,114,108]⟩:ByteArray)] from rfl) (Reps.none _ _))))))))));intro v268 w1 ho2 hb hg_ hnew_;clear hg_ hnew_;(first | rw [← Ny267.out] at ho2 | (simp only [Int.reduceToNat] at ho2;rw [← Ny267.out] at ho2));have n0_:=Aside0.mk (Kd.R_lower ho2 (below_size q70_));have n1_:=Aside0.mk (below_step q70_ hb);clear HB;have HO269:=n0_;have HB:=n1_;clear n0_ n1_;clear hb ho2))
 go_ret
 exact ⟨_,q75_,by (with_reducible repeat (first | apply Kd.R_alloc | apply Kd.R_drewN | apply Kd.R_drew));exact HO269.out,q70_⟩
def spec_l3Regs.f :Option (List ByteArray):=some (([(⟨#[98]⟩:ByteArray),(⟨#[99]⟩:ByteArray),(⟨#[100]⟩:ByteArray),(⟨#[101]⟩:ByteArray),(⟨#[104]⟩:ByteArray),(⟨#[108]⟩:ByteArray),(⟨#[91,104,108,93]⟩:ByteArray),(⟨#[97]⟩:ByteArray)]:List ByteArray))
theorem spec_l3Regs.calls  (r:List ByteArray) (w:World) (h:spec_l3Regs.f  = some r) :
  Calls Tryz.prog 100 #[] w fun e w' => ∃ v0_:Value,e = .returned (v0_) ∧ Kd.R Kd.string 9 w' w.heap.size (fun _ => True) v0_ r ∧ Below w.heap.size w w':=by
 have HB:=Aside0.mk (Below.refl w.heap.size w)
 have H:=h;unfold spec_l3Regs.f at H
 clear h
 obtain ⟨y270,hy270⟩:∃ y_:List ByteArray,y_ = (([(⟨#[98]⟩:ByteArray),(⟨#[99]⟩:ByteArray),(⟨#[100]⟩:ByteArray),(⟨#[101]⟩:ByteArray),(⟨#[104]⟩:ByteArray),(⟨#[108]⟩:ByteArray),(⟨#[91,104,108,93]⟩:ByteArray),(⟨#[97]⟩:ByteArray)]:List ByteArray)):=⟨_,rfl⟩
 replace H:(some y270) = some r:=by first | (rw [hy270];exact H) | exact H
 have Ny270:=Aside0.mk hy270
 clear hy270
 obtain rfl:=Option.some.inj H
 go_enter Tryz.func100,Tryz.ntmps100
 go_wp2_with (first | ((with_reducible refine gate_dst (N:=1) rfl ?_);refine Kd.R_lit Kd.string _ 9 ?hg (N:=1) ?hd (xs:=([(⟨#[98]⟩:ByteArray),(⟨#[99]⟩:ByteArray),(⟨#[100]⟩:ByteArray),(⟨#[101]⟩:ByteArray),(⟨#[104]⟩:ByteArray),(⟨#[108]⟩:ByteArray),(⟨#[91,104,108,93]⟩:ByteArray),(⟨#[97]⟩:ByteArray)]:List ByteArray)) (inner:=[.string (⟨#[98]⟩:ByteArray),.string (⟨#[99]⟩:ByteArray),.string (⟨#[100]⟩:ByteArray),.string (⟨#[101]⟩:ByteArray),.string (⟨#[104]⟩:ByteArray),.string (⟨#[108]⟩:ByteArray),.string (⟨#[91,104,108,93]⟩:ByteArray),.string (⟨#[97]⟩:ByteArray)]) (ok:=fun _ => True) (okp:=fun _ => True) ?hr ?hp (fun _ hk => hk) trivial (Below.refl _ _) (Nat.le_refl _) (by simp) ?_;(case hd => rfl);(case hg => rfl);(case hr => exact q153_);(case hp => exact (Reps.one (show Kd.M Kd.string _ _ _ (⟨#[98]⟩:ByteArray) [.string (⟨#[98]⟩:ByteArray)] from rfl) (Reps.one (show Kd.M Kd.string _ _ _ (⟨#[99]⟩:ByteArray) [.string (⟨#[99]⟩:ByteArray)] from rfl) (Reps.one (show Kd.M Kd.string _ _ _ (⟨#[100]⟩:ByteArray) [.string (⟨#[100]⟩:ByteArray)] from rfl) (Reps.one (show Kd.M Kd.string _ _ _ (⟨#[101]⟩:ByteArray) [.string (⟨#[101]⟩:ByteArray)] from rfl) (Reps.one (show Kd.M Kd.string _ _ _ (⟨#[104]⟩:ByteArray) [.string (⟨#[104]⟩:ByteArray)] from rfl) (Reps.one (show Kd.M Kd.string _ _ _ (⟨#[108]⟩:ByteArray) [.string (⟨#[108]⟩:ByteArray)] from rfl) (Reps.one (show Kd.M Kd.string _ _ _ (⟨#[91,104,108,93]⟩:ByteArray) [.string (⟨#[91,104,108,93]⟩:ByteArray)] from rfl) (Reps.one (show Kd.M Kd.string _ _ _ (⟨#[97]⟩:ByteArray) [.string (⟨#[97]⟩:ByteArray)] from rfl) (Reps.none _ _))))))))));intro v271 w1 ho2 hb hg_ hnew_;clear hg_ hnew_;(first | rw [← Ny270.out] at ho2 | (simp only [Int.reduceToNat] at ho2;rw [← Ny270.out] at ho2));have n0_:=Aside0.mk (Kd.R_lower ho2 (below_size q70_));have n1_:=Aside0.mk (below_step q70_ hb);clear HB;have HO272:=n0_;have HB:=n1_;clear n0_ n1_;clear hb ho2))
 go_ret
 exact ⟨_,q75_,by (with_reducible repeat (first | apply Kd.R_alloc | apply Kd.R_drewN | apply Kd.R_drew));exact HO272.out,q70_⟩
def spec_l3Conds.f :Option (List ByteArray):=some (([(⟨#[110,122]⟩:ByteArray),(⟨#[122]⟩:ByteArray),(⟨#[110,99]⟩:ByteArray),(⟨#[99]⟩:ByteArray)]:List ByteArray))
theorem spec_l3Conds.calls  (r:List ByteArray) (w:World) (h:spec_l3Conds.f  = some r) :
  Calls Tryz.prog 132 #[] w fun e w' => ∃ v0_:Value,e = .returned (v0_) ∧ Kd.R Kd.string 9 w' w.heap.size (fun _ => True) v0_ r ∧ Below w.heap.size w w':=by
 have HB:=Aside0.mk (Below.refl w.heap.size w)
 have H:=h;unfold spec_l3Conds.f at H
 clear h
 obtain ⟨y273,hy273⟩:∃ y_:List ByteArray,y_ = (([(⟨#[110,122]⟩:ByteArray),(⟨#[122]⟩:ByteArray),(⟨#[110,99]⟩:ByteArray),(⟨#[99]⟩:ByteArray)]:List ByteArray)):=⟨_,rfl⟩
 replace H:(some y273) = some r:=by first | (rw [hy273];exact H) | exact H
 have Ny273:=Aside0.mk hy273
 clear hy273
 obtain rfl:=Option.some.inj H
 go_enter Tryz.func132,Tryz.ntmps132
 go_wp2_with (first | ((with_reducible refine gate_dst (N:=1) rfl ?_);refine Kd.R_lit Kd.string _ 9 ?hg (N:=1) ?hd (xs:=([(⟨#[110,122]⟩:ByteArray),(⟨#[122]⟩:ByteArray),(⟨#[110,99]⟩:ByteArray),(⟨#[99]⟩:ByteArray)]:List ByteArray)) (inner:=[.string (⟨#[110,122]⟩:ByteArray),.string (⟨#[122]⟩:ByteArray),.string (⟨#[110,99]⟩:ByteArray),.string (⟨#[99]⟩:ByteArray)]) (ok:=fun _ => True) (okp:=fun _ => True) ?hr ?hp (fun _ hk => hk) trivial (Below.refl _ _) (Nat.le_refl _) (by simp) ?_;(case hd => rfl);(case hg => rfl);(case hr => exact q153_);(case hp => exact (Reps.one (show Kd.M Kd.string _ _ _ (⟨#[110,122]⟩:ByteArray) [.string (⟨#[110,122]⟩:ByteArray)] from rfl) (Reps.one (show Kd.M Kd.string _ _ _ (⟨#[122]⟩:ByteArray) [.string (⟨#[122]⟩:ByteArray)] from rfl) (Reps.one (show Kd.M Kd.string _ _ _ (⟨#[110,99]⟩:ByteArray) [.string (⟨#[110,99]⟩:ByteArray)] from rfl) (Reps.one (show Kd.M Kd.string _ _ _ (⟨#[99]⟩:ByteArray) [.string (⟨#[99]⟩:ByteArray)] from rfl) (Reps.none _ _))))));intro v274 w1 ho2 hb hg_ hnew_;clear hg_ hnew_;(first | rw [← Ny273.out] at ho2 | (simp only [Int.reduceToNat] at ho2;rw [← Ny273.out] at ho2));have n0_:=Aside0.mk (Kd.R_lower ho2 (below_size q70_));have n1_:=Aside0.mk (below_step q70_ hb);clear HB;have HO275:=n0_;have HB:=n1_;clear n0_ n1_;clear hb ho2))
 go_ret
 exact ⟨_,q75_,by (with_reducible repeat (first | apply Kd.R_alloc | apply Kd.R_drewN | apply Kd.R_drew));exact HO275.out,q70_⟩
def spec_l3Pairs.f :Option (List ByteArray):=some (([(⟨#[98,99]⟩:ByteArray),(⟨#[100,101]⟩:ByteArray),(⟨#[104,108]⟩:ByteArray),(⟨#[115,112]⟩:ByteArray)]:List ByteArray))
theorem spec_l3Pairs.calls  (r:List ByteArray) (w:World) (h:spec_l3Pairs.f  = some r) :
  Calls Tryz.prog 133 #[] w fun e w' => ∃ v0_:Value,e = .returned (v0_) ∧ Kd.R Kd.string 9 w' w.heap.size (fun _ => True) v0_ r ∧ Below w.heap.size w w':=by
 have HB:=Aside0.mk (Below.refl w.heap.size w)
 have H:=h;unfold spec_l3Pairs.f at H
 clear h
 obtain ⟨y276,hy276⟩:∃ y_:List ByteArray,y_ = (([(⟨#[98,99]⟩:ByteArray),(⟨#[100,101]⟩:ByteArray),(⟨#[104,108]⟩:ByteArray),(⟨#[115,112]⟩:ByteArray)]:List ByteArray)):=⟨_,rfl⟩
 replace H:(some y276) = some r:=by first | (rw [hy276];exact H) | exact H
 have Ny276:=Aside0.mk hy276
 clear hy276
 obtain rfl:=Option.some.inj H
 go_enter Tryz.func133,Tryz.ntmps133
 go_wp2_with (first | ((with_reducible refine gate_dst (N:=1) rfl ?_);refine Kd.R_lit Kd.string _ 9 ?hg (N:=1) ?hd (xs:=([(⟨#[98,99]⟩:ByteArray),(⟨#[100,101]⟩:ByteArray),(⟨#[104,108]⟩:ByteArray),(⟨#[115,112]⟩:ByteArray)]:List ByteArray)) (inner:=[.string (⟨#[98,99]⟩:ByteArray),.string (⟨#[100,101]⟩:ByteArray),.string (⟨#[104,108]⟩:ByteArray),.string (⟨#[115,112]⟩:ByteArray)]) (ok:=fun _ => True) (okp:=fun _ => True) ?hr ?hp (fun _ hk => hk) trivial (Below.refl _ _) (Nat.le_refl _) (by simp) ?_;(case hd => rfl);(case hg => rfl);(case hr => exact q153_);(case hp => exact (Reps.one (show Kd.M Kd.string _ _ _ (⟨#[98,99]⟩:ByteArray) [.string (⟨#[98,99]⟩:ByteArray)] from rfl) (Reps.one (show Kd.M Kd.string _ _ _ (⟨#[100,101]⟩:ByteArray) [.string (⟨#[100,101]⟩:ByteArray)] from rfl) (Reps.one (show Kd.M Kd.string _ _ _ (⟨#[104,108]⟩:ByteArray) [.string (⟨#[104,108]⟩:ByteArray)] from rfl) (Reps.one (show Kd.M Kd.string _ _ _ (⟨#[115,112]⟩:ByteArray) [.string (⟨#[115,112]⟩:ByteArray)] from rfl) (Reps.none _ _))))));intro v277 w1 ho2 hb hg_ hnew_;clear hg_ hnew_;(first | rw [← Ny276.out] at ho2 | (simp only [Int.reduceToNat] at ho2;rw [← Ny276.out] at ho2));have n0_:=Aside0.mk (Kd.R_lower ho2 (below_size q70_));have n1_:=Aside0.mk (below_step q70_ hb);clear HB;have HO278:=n0_;have HB:=n1_;clear n0_ n1_;clear hb ho2))
 go_ret
 exact ⟨_,q75_,by (with_reducible repeat (first | apply Kd.R_alloc | apply Kd.R_drewN | apply Kd.R_drew));exact HO278.out,q70_⟩
end Go.Proofs.YtodlnnoekccmmaaGreatDoor.QFnMarks
