/- The machine's side of a law,written by a program of this session for this claim. -/
import Derived.Test.YtodlnnoekccmmaaGreatDoorKQq
import Derived.Test.YtodlnnoekccmmaaGreatDoorKQFnMarksx0
import Derived.Test.YtodlnnoekccmmaaGreatDoorKQFnMarksx8
import Derived.Test.YtodlnnoekccmmaaGreatDoorKQFnMarksx11
import Derived.Test.YtodlnnoekccmmaaGreatDoorKQFnMarksx12
namespace Go.Proofs.YtodlnnoekccmmaaGreatDoor.QFnMarks
open Go.Proofs.YtodlnnoekccmmaaGreatDoor.Qq
open Go.RowKit Go.Proofs.YtodlnnoekccmmaaGreatDoor.LibX Go.Proofs.YtodlnnoekccmmaaGreatDoor.LibE Go.Proofs.YtodlnnoekccmmaaGreatDoor.LibCB Go.Proofs.YtodlnnoekccmmaaGreatDoorW.PrintWords Go.Proofs.YtodlnnoekccmmaaGreatDoorW.PrintLast Go.Proofs.YtodlnnoekccmmaaGreatDoorW.PrintMore
attribute [local go_sem] max2_int min2_int max_two min_two max_three min_three max_four min_four   -- for this text's walks alone
set_option maxHeartbeats 8000000
set_option maxRecDepth 100000
set_option linter.unusedVariables false
set_option linter.unusedSimpArgs false
mutual
def spec_MarksOf.j0:Nat → ByteArray → List Int → Bool → Option (ByteArray)
 | 0,_,_,_ => none
 | k + 1,x0,x1,x22 => if x22 = true then (some (⟨#[]⟩:ByteArray)) else (spec_MarksOf.l0 k x0 x1 (([]:List Int)) 0)
def spec_MarksOf.l0:Nat → ByteArray → List Int → List Int → Int → Option (ByteArray)
 | 0,_,_,_,_ => none
 | k + 1,x0,x1,x5,x6 => if x6 < (x0.size:Int) then (if x5.length < 140737488355328 then (spec_MarksOf.l0 k x0 x1 (x5 ++ [100]) (wrap64 (x6 + 1))) else (none)) else ((some (([]:List Int):List Int)).bind fun y443 => (if y443.length + x1.length < 17592186044416 then (spec_MarksOf.l1 k x0 x5 (y443 ++ x1)) else (none)))
def spec_MarksOf.l1:Nat → ByteArray → List Int → List Int → Option (ByteArray)
 | 0,_,_,_ => none
 | k + 1,x0,x5,x7 => if (x7.length:Int) > 0 then (if 0 < (x7.length:Int) then ((some (([]:List Int):List Int)).bind fun y450 => (if 1 ≤ (x7.length:Int) then ((some (x7.drop 1:List Int)).bind fun y453 => (if y450.length + y453.length < 17592186044416 then ((some (y450 ++ y453:List Int)).bind fun y457 => ((spec_l1In.f (rd x7 0) 0 (wrap64 ((x0.size:Int) - 1))).bind fun t460 => (if t460 = true then (if 0 ≤ (rd x7 0) then (if (rd x7 0) < (x5.length:Int) then (spec_MarksOf.j3 k x0 x5 y457 (rd x7 0) ((rd x5 (rd x7 0)) != 100)) else (none)) else (none)) else (spec_MarksOf.j3 k x0 x5 y457 (rd x7 0) true)))) else (none))) else (none))) else (none)) else (some (strOfNums x5))
def spec_MarksOf.j3:Nat → ByteArray → List Int → List Int → Int → Bool → Option (ByteArray)
 | 0,_,_,_,_,_ => none
 | k + 1,x0,x5,x7,x8,x58 => if x58 = true then (spec_MarksOf.l1 k x0 x5 x7) else (if 0 ≤ x8 then (if x8 ≤ (wrap64 ((wrap64 ((wrap64 (Int.tdiv x8 256)) + 1)) * 256)) then (if (wrap64 ((wrap64 ((wrap64 (Int.tdiv x8 256)) + 1)) * 256)) ≤ (x0.size:Int) then ((spec_ReadIns.f k (x0.extract (x8:Int).toNat ((wrap64 ((wrap64 ((wrap64 (Int.tdiv x8 256)) + 1)) * 256)):Int).toNat) 0).bind fun bt462 => (spec_MarksOf.l2 k x0 x5 x7 x8 bt462.2.2.2 (decide (bt462.2.2.2 > 0)) 1 bt462.1 bt462.2.1 bt462.2.2.1)) else (none)) else (none)) else (none))
def spec_MarksOf.l2:Nat → ByteArray → List Int → List Int → Int → Int → Bool → Int → Int → Bool → Int → Option (ByteArray)
 | 0,_,_,_,_,_,_,_,_,_,_ => none
 | k + 1,x0,x5,x7,x8,x11,x12,x13,x467000,x467001,x467002 => if x13 < x11 then (if x12 = true then (if 0 ≤ (wrap64 (x8 + x13)) then (if (wrap64 (x8 + x13)) < (x5.length:Int) then (spec_MarksOf.l2 k x0 x5 x7 x8 x11 ((rd x5 (wrap64 (x8 + x13))) == 100) (wrap64 (x13 + 1)) x467000 x467001 x467002) else (none)) else (none)) else (spec_MarksOf.l2 k x0 x5 x7 x8 x11 false (wrap64 (x13 + 1)) x467000 x467001 x467002)) else (if x12 = true then (if 0 ≤ x8 then (if x8 < (x5.length:Int) then (spec_MarksOf.l3 k x0 (x5.set (x8:Int).toNat 99) x7 x8 x11 1 x467000 x467001 x467002) else (none)) else (none)) else (spec_MarksOf.l1 k x0 x5 x7))
def spec_MarksOf.l3:Nat → ByteArray → List Int → List Int → Int → Int → Int → Int → Bool → Int → Option (ByteArray)
 | 0,_,_,_,_,_,_,_,_,_ => none
 | k + 1,x0,x5,x7,x8,x11,x14,x467000,x467001,x467002 => if x14 < x11 then (if 0 ≤ (wrap64 (x8 + x14)) then (if (wrap64 (x8 + x14)) < (x5.length:Int) then (spec_MarksOf.l3 k x0 (x5.set ((wrap64 (x8 + x14)):Int).toNat 46) x7 x8 x11 (wrap64 (x14 + 1)) x467000 x467001 x467002) else (none)) else (none)) else ((spec_l13Next.f k x0 x8 x467000 x467001 x467002 x11).bind fun t470 => (if x7.length + t470.length < 17592186044416 then (spec_MarksOf.l1 k x0 x5 (x7 ++ t470)) else (none)))
end
def spec_MarksOf.f (k:Nat) (a0:ByteArray) (l1:List Int):Option (ByteArray):=(spec_l5Banks.f a0).bind fun t436 => (if t436 = 0 then (spec_MarksOf.j0 k a0 l1 true) else (spec_MarksOf.j0 k a0 l1 (decide ((l1.length:Int) > 100))))
theorem spec_MarksOf.calls (k:Nat) (a0:ByteArray) (A1:Option Addr) (c1:Nat) (l1:List Int) (r:ByteArray) (w:World) (hr1:Kd.C (Kd.int .i64) w A1 l1.length l1) (hc1:l1.length ≤ c1) (h:spec_MarksOf.f k a0 l1 = some r) :
  Calls Tryz.prog 31 #[.string a0,.slice A1 l1.length c1] w fun e w' => e = .returned (.string r) ∧ Below w.heap.size w w':=by
 have hu30:=Tryz.underlying30
 have HR1:=Aside0.mk hr1
 have HC1:=Aside0.mk hc1
 clear hr1 hc1
 have HB:=Aside0.mk (Below.refl w.heap.size w)
 have H:=h;unfold spec_MarksOf.f at H
 clear h
 have HC3:=Aside0.mk H
 clear H
 go_enter Tryz.func31,Tryz.ntmps31
 go_upto_region 1 with (fail)
 go_cut [22] (fun v22 wc => ∃ (kq:Nat) (x22_2:Bool),v22 = .bool x22_2 ∧ Aside0 (spec_MarksOf.j0 kq a0 l1 x22_2 = some r) ∧ Aside0 (kq ≤ k) ∧ Aside0 (Below w.heap.size w wc))
 case first =>
  have H:=HC3.out
  clear HC3
  replace H:=Option.bind_eq_some_iff.mp H
  obtain ⟨t436,A40,H⟩:=H
  have A4:=Aside0.mk A40
  clear A40
  by_cases c5:t436 = 0
  ·rw [if_pos c5] at H
   have c5b0:(t436 == 0) = true:=beq_iff_eq.mpr c5
   have c5b1:(t436 != 0) = false:=bne_eq_false_iff_eq.mpr c5
   clear c5
   (first | rw [c5b0] | (simp only [i64_w,i32_w];rw [c5b0]) | skip)
   have H':=Aside0.mk H
   clear H
   go_wp2_with (first | ((with_reducible refine gate_callee (f:=76) rfl ?_);refine goesL_ (some 16) rfl rfl Tryz.func76 (by kernel_rfl) rfl #[.string a0] rfl q68_ ?_;(with_reducible refine (spec_l5Banks.calls a0 t436 _ A4.out).mono ?_);rintro e w' ⟨rfl,⟨nd,rfl⟩⟩;refine ⟨_,rfl,?_⟩))
   go_meet
   case rel => exact ⟨_,(true),q94_,H',⟨q132_⟩,⟨q70_⟩⟩
  rw [if_neg c5] at H
  have c5b0:(t436 == 0) = false:=beq_eq_false_iff_ne.mpr c5
  have c5b1:(t436 != 0) = true:=bne_iff_ne.mpr c5
  (first | rw [c5b0] | (simp only [i64_w,i32_w];rw [c5b0]) | skip)
  have H':=Aside0.mk H
  clear H
  go_wp2_with (first | ((with_reducible refine gate_callee (f:=76) rfl ?_);refine goesL_ (some 16) rfl rfl Tryz.func76 (by kernel_rfl) rfl #[.string a0] rfl q68_ ?_;(with_reducible refine (spec_l5Banks.calls a0 t436 _ A4.out).mono ?_);rintro e w' ⟨rfl,⟨nd,rfl⟩⟩;refine ⟨_,rfl,?_⟩))
  go_meet
  case rel => exact ⟨_,(decide ((l1.length:Int) > 100)),q94_,H',⟨q132_⟩,⟨q70_⟩⟩
 clear HC3
 try clear c1
 try clear p2
 try clear c3
 try clear c5
 try clear c5b0
 try clear c5b1
 obtain ⟨kq,x22_2,rfl,HA,HJ2,HB⟩:=hcut
 cases kq with
 | zero => exact absurd HA.out (by simp [spec_MarksOf.j0])
 | succ kj2 =>
  have H:=HA.out
  clear HA
  simp only [spec_MarksOf.j0] at H
  by_cases c6:x22_2 = true
  ·subst c6
   rewrite [if_pos rfl] at H
   obtain rfl:=Option.some.inj H
   go_wp2
   go_ret
   exact ⟨q75_,q70_⟩
  replace c6:=Bool.eq_false_iff.mpr c6
  subst c6
  rewrite [if_neg (show ¬ (false = true) by decide)] at H
  obtain ⟨y437,hy437⟩:∃ y_:List Int,y_ = (([]:List Int)):=⟨_,rfl⟩
  replace H:(spec_MarksOf.l0 kj2 a0 l1 y437 0) = some r:=by first | (rw [hy437];exact H) | exact H
  have Ny437:=Aside0.mk hy437
  clear hy437
  have H':=Aside0.mk H
  clear H
  go_wp2_with (first | ((with_reducible refine gate_dst (N:=23) rfl ?_);(try (refine gate_guard (by rfl) ?_;dsimp only));refine Kd.R_lit (Kd.int .u8) _ 5 ?hg (N:=23) ?hd (xs:=([]:List Int)) (inner:=[]) (ok:=fun _ => True) (okp:=fun _ => True) ?hr ?hp (fun _ hk => hk) trivial (Below.refl _ _) (Nat.le_refl _) (by simp) ?_;(case hd => rfl);(case hg => rfl);(case hr => exact q153_);(case hp => exact (Reps.none _ _));intro v438 w7 ho8 hb hg_ hnew_;clear hg_ hnew_;(first | rw [← Ny437.out] at ho8 | (simp only [Int.reduceToNat] at ho8;rw [← Ny437.out] at ho8));have n0_:=Aside0.mk (Kd.R_lower ho8 (below_size q70_));have n1_:=Aside0.mk (below_step q70_ hb);clear HB;have HO439:=n0_;have HB:=n1_;clear n0_ n1_;clear hb ho8))
  go_loopg [5,6] kj2 (fun kq v5 v6 w' => ∃ (x5_2:List Int) (x6_2:Int),v6 = .int .i64 x6_2 ∧ Aside0 (spec_MarksOf.l0 kq a0 l1 x5_2 x6_2 = some r) ∧ Aside0 (kq ≤ kj2) ∧ Aside0 (Kd.R (Kd.int .u8) 5 w' w.heap.size (fun _ => True) v5 x5_2) ∧ Aside0 (Below w.heap.size w w'))
  case atStart => exact ⟨(y437),(0),q94_,H',⟨Nat.le_refl _⟩,⟨by (with_reducible repeat (first | apply Kd.R_alloc | apply Kd.R_drewN | apply Kd.R_drew));exact HO439.out⟩,⟨q70_⟩⟩
  clear H'
  try clear c1
  try clear p2 p2
  try clear c3
  try clear c5
  try clear c5b0
  try clear c5b1
  try clear c6
  try clear p6
  try clear c7
  obtain ⟨x5_2,x6_2,rfl,HA,HK2,HO_5,HB⟩:=hrel
  cases gk with
  | zero => exact absurd HA.out (by simp [spec_MarksOf.l0])
  | succ k2 =>
   have H:=HA.out
   clear HA
   simp only [spec_MarksOf.l0] at H
   by_cases c9:x6_2 < (a0.size:Int)
   ·rw [if_pos c9] at H
    have c9b0:=decide_eq_true c9
    clear c9
    by_cases c10:x5_2.length < 140737488355328
    rotate_left
    ·rw [if_neg c10] at H
     exact absurd H (by simp)
    rw [if_pos c10] at H
    have LMc10:=Aside0.mk c10
    clear c10
    obtain ⟨y440,hy440⟩:∃ y_:List Int,y_ = (x5_2 ++ [100]):=⟨_,rfl⟩
    replace H:(spec_MarksOf.l0 k2 a0 l1 y440 (wrap64 (x6_2 + 1))) = some r:=by first | (rw [hy440];exact H) | exact H
    have Ny440:=Aside0.mk hy440
    clear hy440
    have H':=Aside0.mk H
    clear H
    go_wp2_with (first | ((with_reducible refine gate_builtin (b:=.append) (xs:=#[.tmp 30,.tmp 31]) rfl ?_);(try (refine gate_guard (by rfl) ?_;dsimp only));at_builtin;refine Kd.R_append (Kd.int .u8) (w0:=w) w.heap.size rfl (.tmp 30) (.tmp 31) 22 5 (.int .u8 0) 1 rfl Tryz.underlying22 info5 rfl (by decide) (by omega) u5 x5_2 100 [.int .u8 100] (fun _ => True) (fun _ => False) rfl rfl ?aP (fun _ hk => hk.elim) ?aF ?aO ?aB ?aS ?aL ?_;(case aP => exact rfl);(case aB => exact q70_);(case aF => exact (fun _ _ => trivial));(case aO => exact q110_);(case aS => exact (below_size q70_));(case aL => have:=LMc10.out;omega);intro v441 w11 ho hb hg hat;rw [← Ny440.out] at ho;have n0_:=Aside0.mk (hb);have n1_:=Aside0.mk (ho);clear HB;clear HO_5;have HB:=n0_;have HO442:=n1_;clear n0_ n1_;clear ho hb hg hat))
    go_roundg k2
    case measure => have:=HJ2.out;have:=HK2.out;omega
    case rel => exact ⟨(y440),(wrap64 (x6_2 + 1)),q94_,H',⟨by have:=HJ2.out;have:=HK2.out;omega⟩,⟨by (with_reducible repeat (first | apply Kd.R_alloc | apply Kd.R_drewN | apply Kd.R_drew));exact HO442.out⟩,⟨q70_⟩⟩
   rw [if_neg c9] at H
   have c9b0:=decide_eq_false c9
   clear c9
   obtain ⟨y443,hy443⟩:∃ y_:List Int,y_ = (([]:List Int)):=⟨_,rfl⟩
   replace H:(if y443.length + l1.length < 17592186044416 then (spec_MarksOf.l1 k2 a0 x5_2 (y443 ++ l1)) else (none)) = some r:=by first | (rw [hy443];exact H) | exact H
   have Ny443:=Aside0.mk hy443
   clear hy443
   by_cases c12:y443.length + l1.length < 17592186044416
   rotate_left
   ·rw [if_neg c12] at H
    exact absurd H (by simp)
   rw [if_pos c12] at H
   have LMc12:=Aside0.mk c12
   clear c12
   obtain ⟨y446,hy446⟩:∃ y_:List Int,y_ = (y443 ++ l1):=⟨_,rfl⟩
   replace H:(spec_MarksOf.l1 k2 a0 x5_2 y446) = some r:=by first | (rw [hy446];exact H) | exact H
   have Ny446:=Aside0.mk hy446
   clear hy446
   have H':=Aside0.mk H
   clear H
   go_wp2_with (first | ((with_reducible refine gate_dst (N:=33) rfl ?_);(try (refine gate_guard (by rfl) ?_;dsimp only));refine Kd.R_lit (Kd.int .i64) _ 2 ?hg (N:=33) ?hd (xs:=([]:List Int)) (inner:=[]) (ok:=fun _ => True) (okp:=fun _ => True) ?hr ?hp (fun _ hk => hk) trivial (Below.refl _ _) (Nat.le_refl _) (by simp) ?_;(case hd => rfl);(case hg => rfl);(case hr => exact q153_);(case hp => exact (Reps.none _ _));intro v444 w13 ho14 hb hg_ hnew_;clear hg_ hnew_;(first | rw [← Ny443.out] at ho14 | (simp only [Int.reduceToNat] at ho14;rw [← Ny443.out] at ho14));have n0_:=Aside0.mk (Kd.R_below q110_ hb);have n1_:=Aside0.mk (Kd.R_lower ho14 (below_size q70_));have n2_:=Aside0.mk (below_step q70_ hb);clear HO_5;clear HB;have HO_5:=n0_;have HO445:=n1_;have HB:=n2_;clear n0_ n1_ n2_;clear hb ho14) | ((with_reducible refine gate_builtin (b:=.append) (xs:=#[.tmp 33,.tmp 34]) rfl ?_);(try (refine gate_guard (by rfl) ?_;dsimp only));at_builtin;refine Kd.R_append_rows (Kd.int .i64) (w0:=w) w.heap.size rfl (.tmp 33) (.tmp 34) 40 2 (.int .i64 0) 8 rfl Tryz.underlying40 info2 rfl (by decide) (by omega) v444 y443 l1 _ _ _ (fun _ => True) (fun _ => False) rfl rfl ?aO ?aR (fun _ _ h => h) (fun _ h => h.elim) ?aF ?aB ?aS ?aL ?_;(case aR => exact q147_);(case aB => exact q70_);(case aF => exact (fun _ _ => trivial));(case aO => exact (by (with_reducible repeat (first | apply Kd.R_alloc | apply Kd.R_drewN | apply Kd.R_drew));exact HO445.out));(case aS => exact (below_size q70_));(case aL => have:=LMc12.out;omega);intro v447 w15 ho hb hg hat;rw [← Ny446.out] at ho;have n0_:=Aside0.mk (Kd.R_over' q110_ (Kd.R_typed (by (with_reducible repeat (first | apply Kd.R_alloc | apply Kd.R_drewN | apply Kd.R_drew));exact HO445.out)) (by decide) hg);have n1_:=Aside0.mk (hb);have n2_:=Aside0.mk (ho);clear HO_5;clear HB;clear HO445;have HO_5:=n0_;have HB:=n1_;have HO448:=n2_;clear n0_ n1_ n2_;clear ho hb hg hat))
   go_loopg [7] k2 (fun kq v7 w' => ∃ (x5_3:List Int) (x7_3:List Int),Aside0 (spec_MarksOf.l1 kq a0 x5_3 x7_3 = some r) ∧ Aside0 (kq ≤ k2) ∧ Aside0 (Kd.R (Kd.int .u8) 5 w' w.heap.size (fun _ => True) u5 x5_3) ∧ Aside0 (Kd.R (Kd.int .i64) 2 w' w.heap.size (fun _ => True) v7 x7_3) ∧ Aside0 (Below w.heap.size w w'))
   case atStart => exact ⟨(x5_2),(y446),H',⟨Nat.le_refl _⟩,⟨q110_⟩,⟨by (with_reducible repeat (first | apply Kd.R_alloc | apply Kd.R_drewN | apply Kd.R_drew));exact HO448.out⟩,⟨q70_⟩⟩
   clear H'
   try clear c1
   try clear p2 p2
   try clear c3
   try clear c5
   try clear c5b0
   try clear c5b1
   try clear c6
   try clear p6 p6
   try clear c7
   try clear c9
   try clear c9b0
   try clear c10
   try clear c12
   obtain ⟨x5_3,x7_3,HA,HK3,HO_5,HO_7,HB⟩:=hrel
   cases gk with
   | zero => exact absurd HA.out (by simp [spec_MarksOf.l1])
   | succ k3 =>
    have H:=HA.out
    clear HA
    simp only [spec_MarksOf.l1] at H
    by_cases c16:(x7_3.length:Int) > 0
    ·rw [if_pos c16] at H
     have c16b0:decide (0 < (x7_3.length:Int)) = true:=decide_eq_true c16
     have c16b1:decide (0 < x7_3.length) = true:=decide_eq_true (by omega)
     clear c16
     by_cases c17:0 < (x7_3.length:Int)
     rotate_left
     ·rw [if_neg c17] at H
      exact absurd H (by simp)
     rw [if_pos c17] at H
     have c17b0:=decide_eq_true c17
     have c17b1:decide (0 < x7_3.length) = true:=decide_eq_true (by omega)
     clear c17
     obtain ⟨y450,hy450⟩:∃ y_:List Int,y_ = (([]:List Int)):=⟨_,rfl⟩
     replace H:(if 1 ≤ (x7_3.length:Int) then ((some (x7_3.drop 1:List Int)).bind fun y453 => (if y450.length + y453.length < 17592186044416 then ((some (y450 ++ y453:List Int)).bind fun y457 => ((spec_l1In.f (rd x7_3 0) 0 (wrap64 ((a0.size:Int) - 1))).bind fun t460 => (if t460 = true then (if 0 ≤ (rd x7_3 0) then (if (rd x7_3 0) < (x5_3.length:Int) then (spec_MarksOf.j3 k3 a0 x5_3 y457 (rd x7_3 0) ((rd x5_3 (rd x7_3 0)) != 100)) else (none)) else (none)) else (spec_MarksOf.j3 k3 a0 x5_3 y457 (rd x7_3 0) true)))) else (none))) else (none)) = some r:=by first | (rw [hy450];exact H) | exact H
     have Ny450:=Aside0.mk hy450
     clear hy450
     by_cases c18:1 ≤ (x7_3.length:Int)
     rotate_left
     ·rw [if_neg c18] at H
      exact absurd H (by simp)
     rw [if_pos c18] at H
     have c18b0:=eq_true c18
     have c18b1:=decide_eq_true c18
     clear c18
     obtain ⟨y453,hy453⟩:∃ y_:List Int,y_ = (x7_3.drop 1):=⟨_,rfl⟩
     replace H:(if y450.length + y453.length < 17592186044416 then ((some (y450 ++ y453:List Int)).bind fun y457 => ((spec_l1In.f (rd x7_3 0) 0 (wrap64 ((a0.size:Int) - 1))).bind fun t460 => (if t460 = true then (if 0 ≤ (rd x7_3 0) then (if (rd x7_3 0) < (x5_3.length:Int) then (spec_MarksOf.j3 k3 a0 x5_3 y457 (rd x7_3 0) ((rd x5_3 (rd x7_3 0)) != 100)) else (none)) else (none)) else (spec_MarksOf.j3 k3 a0 x5_3 y457 (rd x7_3 0) true)))) else (none)) = some r:=by first | (rw [hy453];exact H) | exact H
     have Ny453:=Aside0.mk hy453
     clear hy453
     by_cases c19:y450.length + y453.length < 17592186044416
     rotate_left
     ·rw [if_neg c19] at H
      exact absurd H (by simp)
     rw [if_pos c19] at H
     have LMc19:=Aside0.mk c19
     clear c19
     obtain ⟨y457,hy457⟩:∃ y_:List Int,y_ = (y450 ++ y453):=⟨_,rfl⟩
     replace H:((spec_l1In.f (rd x7_3 0) 0 (wrap64 ((a0.size:Int) - 1))).bind fun t460 => (if t460 = true then (if 0 ≤ (rd x7_3 0) then (if (rd x7_3 0) < (x5_3.length:Int) then (spec_MarksOf.j3 k3 a0 x5_3 y457 (rd x7_3 0) ((rd x5_3 (rd x7_3 0)) != 100)) else (none)) else (none)) else (spec_MarksOf.j3 k3 a0 x5_3 y457 (rd x7_3 0) true))) = some r:=by first | (rw [hy457];exact H) | exact H
     have Ny457:=Aside0.mk hy457
     clear hy457
     have HC20:=Aside0.mk H
     clear H
     obtain ⟨Ao21,co21,eo21⟩:=Kd.R_slice HO_7.out
     subst eo21
     have p449:0 ≤ (0:Int):=(by omega)
     have q449:0 < (x7_3.length:Int):=of_decide_eq_true q119_
     obtain ⟨ad449,e449,hx449_0⟩:=Kd.at_int (Kd.R_reads' HO_7.out).2.2 0 p449 q449
     cases e449
     have qi449:(0 < x7_3.length) = True:=eq_true (by omega)
     (try rw [show ((0:Int)).toNat = 0 from rfl] at hx449_0)
     (try rw [Addr.add_zero'] at hx449_0)
     replace p449:=eq_true p449
     replace q449:=eq_true q449
     go_upto_region 12 with (first | ((with_reducible refine gate_dst (N:=42) rfl ?_);(try (refine gate_guard (by rfl) ?_;dsimp only));refine Kd.R_lit (Kd.int .i64) _ 2 ?hg (N:=42) ?hd (xs:=([]:List Int)) (inner:=[]) (ok:=fun _ => True) (okp:=fun _ => True) ?hr ?hp (fun _ hk => hk) trivial (Below.refl _ _) (Nat.le_refl _) (by simp) ?_;(case hd => rfl);(case hg => rfl);(case hr => exact q153_);(case hp => exact (Reps.none _ _));intro v451 w22 ho23 hb hg_ hnew_;clear hg_ hnew_;(first | rw [← Ny450.out] at ho23 | (simp only [Int.reduceToNat] at ho23;rw [← Ny450.out] at ho23));have n0_:=Aside0.mk (Kd.R_below q110_ hb);have n1_:=Aside0.mk (Kd.R_elder' q112_ (Kd.R_base ho23) hb);have n2_:=Aside0.mk (Kd.R_lower (Kd.R_new' ho23 (Kd.R_lt q112_)) (below_size q70_));have n3_:=Aside0.mk (below_step q70_ hb);clear HO_5;clear HO_7;clear HB;have HO_5:=n0_;have HO_7:=n1_;have HO452:=n2_;have HB:=n3_;clear n0_ n1_ n2_ n3_;clear hb ho23;have q24:(1:Int) ≤ ((x7_3.length:Int):Int):=of_decide_eq_true q119_;obtain ⟨i024,hi024,_,hsz24,_⟩:=info_parts info2;have hroom24:x7_3.length ≤ co21:=(Kd.R_reads' HO_7.out).2.1;have hC24:Kd.C (Kd.int .i64) _ (some ad449) x7_3.length x7_3:=(Kd.R_reads' HO_7.out).2.2;have hcut24:=cut_from (P:=Tryz.prog) 40 2 .i64 Tryz.underlying40 hi024 1 hsz24 (some ad449) x7_3.length co21 1 (by omega) q24;have hr24:=Kd.C_drop (m:=(1:Int).toNat) (c:=co21) hC24 (by omega) hroom24;obtain ⟨A24,hA24⟩:∃ A1,A1 = (if co21 = (1:Int).toNat then (some ad449) else ((some ad449):Option Addr).map (·.add ((1:Int).toNat * 1))):=⟨_,rfl⟩;obtain ⟨c24,hc24⟩:∃ c1,c1 = co21 - (1:Int).toNat:=⟨_,rfl⟩;have hy24:y453.length = x7_3.length - (1:Int).toNat:=(by rw [Ny453.out,List.length_drop] <;> omega);rw [show (x7_3).drop (1:Int).toNat = y453 from Ny453.out.symm] at hr24;replace hr24:Kd.C (Kd.int .i64) _ A24 y453.length y453:=(by rw [hA24];exact hr24);rw [← hy24,← hA24,← hc24] at hcut24;have HR456:=Aside0.mk hr24;have HC456:=Aside0.mk (show y453.length ≤ c24 from by rw [hy24,hc24];exact Nat.sub_le_sub_right hroom24 _);clear hr24 hC24 hroom24 hi024 hsz24 hc24;have KY24:=Aside0.mk hy24;have KA24:=Aside0.mk hA24;clear hy24 hA24;have KL24:=Aside0.mk (show 1 ≤ x7_3.length from by omega);replace q24:=eq_true q24) | ((with_reducible refine gate_builtin (b:=.append) (xs:=#[.tmp 42,.tmp 44]) rfl ?_);(try (refine gate_guard (by rfl) ?_;dsimp only));at_builtin;refine Kd.R_append_rows (Kd.int .i64) (w0:=w) w.heap.size rfl (.tmp 42) (.tmp 44) 40 2 (.int .i64 0) 8 rfl Tryz.underlying40 info2 rfl (by decide) (by omega) v451 y450 y453 _ _ _ (fun k_ => some k_ ≠ (.slice (some ad449) x7_3.length co21:Value).ownBlock) (fun _ => False) rfl rfl ?aO ?aR (fun _ _ h => h) (fun _ h => h.elim) ?aF ?aB ?aS ?aL ?_;(case aR => repeat (first | exact (by repeat (first | (with_reducible exact HR456.out) | (with_reducible refine Kd.C_alloc ?_ _) | (with_reducible refine Kd.C_drewN ?_ _) | (with_reducible refine Kd.C_drew ?_) | exact HR456.out)) | (with_reducible refine Kd.C_alloc ?_ _) | (with_reducible refine Kd.C_drewN ?_ _) | (with_reducible refine Kd.C_drew ?_)));(case aB => exact q70_);(case aF => exact (fun k_ hk => Kd.fresh' (Kd.R_lt q112_) k_ hk));(case aO => exact (by (with_reducible repeat (first | apply Kd.R_alloc | apply Kd.R_drewN | apply Kd.R_drew));exact Kd.R_mono HO452.out (fun _ hk => hk.2)));(case aS => exact (below_size q70_));(case aL => have:=LMc19.out;omega);intro v458 w25 ho hb hg hat;rw [← Ny457.out] at ho;have n0_:=Aside0.mk (Kd.R_over' q110_ (Kd.R_typed (by (with_reducible repeat (first | apply Kd.R_alloc | apply Kd.R_drewN | apply Kd.R_drew));exact HO452.out)) (by decide) hg);have n1_:=Aside0.mk (Kd.R_after (ok:=(fun _ => True)) q112_ hg hat);have n2_:=Aside0.mk (hb);have n3_:=Aside0.mk ((show Kd.C (Kd.int .i64) w25 A24 y453.length y453 from by rw [Ny453.out,KA24.out];exact Kd.C_drop (m:=1) (c:=co21) ((Kd.R_reads' (Kd.R_after (ok:=(fun _ => True)) q112_ hg hat)).2.2) KL24.out ((Kd.R_reads' (Kd.R_after (ok:=(fun _ => True)) q112_ hg hat)).2.1)));have n4_:=Aside0.mk (ho);clear HO_5;clear HO_7;clear HB;clear HR456;clear HO452;have HO_5:=n0_;have HO_7:=n1_;have HB:=n2_;have HR456:=n3_;have HO459:=n4_;clear n0_ n1_ n2_ n3_ n4_;clear ho hb hg hat))
     (try simp only [Act.put,List.setIfInBounds_toArray,List.set_cons_zero,List.set_cons_succ])
     go_cut [58] (fun v58 wc => ∃ (kq:Nat) (x58_19:Bool),v58 = .bool x58_19 ∧ Aside0 (spec_MarksOf.j3 kq a0 x5_3 y457 (rd x7_3 0) x58_19 = some r) ∧ Aside0 (kq ≤ k3) ∧ Aside0 (Kd.R (Kd.int .u8) 5 wc w.heap.size (fun _ => True) u5 x5_3) ∧ Aside0 (Kd.R (Kd.int .i64) 2 wc w.heap.size (fun _ => True) v458 y457) ∧ Aside0 (Below w.heap.size w wc))
     case first =>
      have H:=HC20.out
      clear HC20
      replace H:=Option.bind_eq_some_iff.mp H
      obtain ⟨t460,A260,H⟩:=H
      have A26:=Aside0.mk A260
      clear A260
      by_cases c27:t460 = true
      ·subst c27
       rewrite [if_pos rfl] at H
       by_cases c28:0 ≤ (rd x7_3 0)
       rotate_left
       ·rw [if_neg c28] at H
        exact absurd H (by simp)
       rw [if_pos c28] at H
       have c28b0:=decide_eq_true c28
       clear c28
       (first | rw [c28b0] | (simp only [i64_w,i32_w];rw [c28b0]) | skip)
       by_cases c29:(rd x7_3 0) < (x5_3.length:Int)
       rotate_left
       ·rw [if_neg c29] at H
        exact absurd H (by simp)
       rw [if_pos c29] at H
       have c29b0:=decide_eq_true c29
       clear c29
       have H':=Aside0.mk H
       clear H
       go_wp2_with (first | ((with_reducible refine gate_callee (f:=51) rfl ?_);refine goesL_ (some 50) rfl rfl Tryz.func51 (by kernel_rfl) rfl #[.int .i64 (rd x7_3 0),.int .i64 0,.int .i64 (wrap64 ((a0.size:Int) - 1))] rfl q8_ ?_;(with_reducible refine (spec_l1In.calls (rd x7_3 0) 0 (wrap64 ((a0.size:Int) - 1)) true _ A26.out).mono ?_);rintro e w' ⟨rfl,⟨nd,rfl⟩⟩;refine ⟨_,rfl,?_⟩;obtain ⟨Ao30,co30,eo30⟩:=Kd.R_slice HO_5.out;subst eo30;have p461:0 ≤ ((rd x7_3 0):Int):=of_decide_eq_true q119_;have q461:(rd x7_3 0) < (x5_3.length:Int):=of_decide_eq_true q119_;obtain ⟨ad461,e461,hx461_0⟩:=Kd.at_int (Kd.R_reads' HO_5.out).2.2 (rd x7_3 0) p461 q461;cases e461;replace p461:=eq_true p461;replace q461:=eq_true q461))
       go_meet
       case rel => exact ⟨_,(((rd x5_3 (rd x7_3 0)) != 100)),q94_,H',⟨by have:=HJ2.out;have:=HK2.out;have:=HK3.out;first | omega | exact Nat.le_refl _⟩,⟨q110_⟩,⟨q69_⟩,⟨q70_⟩⟩
      replace c27:=Bool.eq_false_iff.mpr c27
      subst c27
      rewrite [if_neg (show ¬ (false = true) by decide)] at H
      have H':=Aside0.mk H
      clear H
      go_wp2_with (first | ((with_reducible refine gate_callee (f:=51) rfl ?_);refine goesL_ (some 50) rfl rfl Tryz.func51 (by kernel_rfl) rfl #[.int .i64 (rd x7_3 0),.int .i64 0,.int .i64 (wrap64 ((a0.size:Int) - 1))] rfl q8_ ?_;(with_reducible refine (spec_l1In.calls (rd x7_3 0) 0 (wrap64 ((a0.size:Int) - 1)) false _ A26.out).mono ?_);rintro e w' ⟨rfl,⟨nd,rfl⟩⟩;refine ⟨_,rfl,?_⟩))
      go_meet
      case rel => exact ⟨_,(true),q94_,H',⟨by have:=HJ2.out;have:=HK2.out;have:=HK3.out;first | omega | exact Nat.le_refl _⟩,⟨q110_⟩,⟨q69_⟩,⟨q70_⟩⟩
     clear HC20
     try clear c1
     try clear c2
     try clear p2 p2
     try clear q2
     try clear c3
     try clear p4
     try clear q4
     try clear hx4
     try clear qi4
     try clear c5
     try clear c5b0
     try clear c5b1
     try clear c6
     try clear p6 p6
     try clear c7
     try clear c9
     try clear c9b0
     try clear c10
     try clear c12
     try clear c16
     try clear c16b0
     try clear c16b1
     try clear c17
     try clear c17b0
     try clear c17b1
     try clear c18
     try clear c18b0
     try clear c18b1
     try clear c19
     try clear c24
     try clear q24 q24
     try clear c27
     try clear c28
     try clear c28b0
     try clear c29
     try clear c29b0
     try clear hx449_0
     try clear hx461_0
     try clear p449
     try clear p461
     try clear q449
     try clear q461
     obtain ⟨kq,x58_19,rfl,HA,HJ19,HO_5,HO_7,HB⟩:=hcut
     cases kq with
     | zero => exact absurd HA.out (by simp [spec_MarksOf.j3])
     | succ kj19 =>
      have H:=HA.out
      clear HA
      simp only [spec_MarksOf.j3] at H
      by_cases c31:x58_19 = true
      ·subst c31
       rewrite [if_pos rfl] at H
       have H':=Aside0.mk H
       clear H
       go_wp2
       go_roundg kj19
       case measure => have:=HJ2.out;have:=HK2.out;have:=HK3.out;have:=HJ19.out;omega
       case rel => exact ⟨(x5_3),(y457),H',⟨by have:=HJ2.out;have:=HK2.out;have:=HK3.out;have:=HJ19.out;omega⟩,⟨q110_⟩,⟨q112_⟩,⟨q70_⟩⟩
      replace c31:=Bool.eq_false_iff.mpr c31
      subst c31
      rewrite [if_neg (show ¬ (false = true) by decide)] at H
      by_cases c32:0 ≤ (rd x7_3 0)
      rotate_left
      ·rw [if_neg c32] at H
       exact absurd H (by simp)
      rw [if_pos c32] at H
      have c32b0:=eq_true c32
      have c32b1:=decide_eq_true c32
      clear c32
      by_cases c33:(rd x7_3 0) ≤ (wrap64 ((wrap64 ((wrap64 (Int.tdiv (rd x7_3 0) 256)) + 1)) * 256))
      rotate_left
      ·rw [if_neg c33] at H
       exact absurd H (by simp)
      rw [if_pos c33] at H
      have c33b0:=eq_true c33
      have c33b1:=decide_eq_true c33
      by_cases c34:(wrap64 ((wrap64 ((wrap64 (Int.tdiv (rd x7_3 0) 256)) + 1)) * 256)) ≤ (a0.size:Int)
      rotate_left
      ·rw [if_neg c34] at H
       exact absurd H (by simp)
      rw [if_pos c34] at H
      have c34b0:=eq_true c34
      have c34b1:=decide_eq_true c34
      replace H:=Option.bind_eq_some_iff.mp H
      obtain ⟨⟨t462,t463,t464,t465⟩,A350,H⟩:=H
      try dsimp -simprocs -eta only at H
      have A35:=Aside0.mk A350
      clear A350
      have H':=Aside0.mk H
      clear H
      go_wp2_with (first | ((with_reducible refine gate_callee (f:=24) rfl ?_);refine goesL_ (some 68) rfl rfl Tryz.func24 (by kernel_rfl) rfl #[.string (a0.extract ((rd x7_3 0):Int).toNat ((wrap64 ((wrap64 ((wrap64 (Int.tdiv (rd x7_3 0) 256)) + 1)) * 256)):Int).toNat),.int .i64 0] rfl (by (try simp only [List.map_toArray,List.map_cons,List.map_nil]);first | done | rfl | (simp only [List.length_drop,List.length_take];rfl) | (refine Eq.trans (b:=#[.string (a0.extract ((rd x7_3 0):Int).toNat (((((((Int.tdiv (rd x7_3 0) 256)) + 1)) * 256)):Int).toNat),.int .i64 0]) rfl ?_;simp [wrap64] <;> omega)) ?_;(with_reducible refine (spec_ReadIns.calls kj19 (a0.extract ((rd x7_3 0):Int).toNat ((wrap64 ((wrap64 ((wrap64 (Int.tdiv (rd x7_3 0) 256)) + 1)) * 256)):Int).toNat) 0 t462 t463 t464 t465 _ A35.out).mono ?_);rintro e w36 ⟨rfl,hb⟩;refine ⟨_,rfl,?_⟩;have n0_:=Aside0.mk (Kd.R_below q110_ hb);have n1_:=Aside0.mk (Kd.R_below q112_ hb);have n2_:=Aside0.mk (below_step q70_ hb);clear HO_5;clear HO_7;clear HB;have HO_5:=n0_;have HO_7:=n1_;have HB:=n2_;clear n0_ n1_ n2_;(try clear hb)) | ((with_reducible refine gate_dst (N:=10) rfl ?_);(try (refine gate_guard (by rfl) ?_;dsimp only));refine box_event ?hg (N:=10) ?hd (cs:=#[.int .i64 0,.bool false,.int .i64 0]) (t:=30) ?hr ?_;(case hd => rfl);(case hg => rfl);(case hr => exact q153_);intro gb466 hg w37 hbox hb;have n0_:=Aside0.mk (Kd.R_below q110_ hb);have n1_:=Aside0.mk (Kd.R_below q112_ hb);have n2_:=Aside0.mk (below_step q70_ hb);have n3_:=Aside0.mk (hbox);have n4_:=Aside0.mk ((q46_:w.heap.size ≤ gb466));have n5_:=Aside0.mk ((q46_:w.heap.size ≤ gb466));clear HO_5;clear HO_7;clear HB;have HO_5:=n0_;have HO_7:=n1_;have HB:=n2_;have BK466:=n3_;have GW466:=n4_;have GE466:=n5_;clear n0_ n1_ n2_ n3_ n4_ n5_;clear hb hbox hg;have hcz38_0:w37.cell? ⟨gb466,0,none⟩ = some (.int .i64 0):=(blk_cell BK466.out 0).trans rfl;have hcz38_1:w37.cell? ⟨gb466,1,none⟩ = some (.bool false):=(blk_cell BK466.out 1).trans rfl;have hcz38_2:w37.cell? ⟨gb466,2,none⟩ = some (.int .i64 0):=(blk_cell BK466.out 2).trans rfl;have hfz38_0:=blk_frozen BK466.out 0;have hfz38_1:=blk_frozen BK466.out 1;have hfz38_2:=blk_frozen BK466.out 2))
      go_loopg [12,13] kj19 (fun kq v12 v13 w' => ∃ (x12_5:Bool) (x13_5:Int),v12 = .bool x12_5 ∧ v13 = .int .i64 x13_5 ∧ Aside0 (spec_MarksOf.l2 kq a0 x5_3 y457 (rd x7_3 0) t465 x12_5 x13_5 t462 t463 t464 = some r) ∧ Aside0 (kq ≤ kj19) ∧ Aside0 (Kd.R (Kd.int .u8) 5 w' w.heap.size (fun _ => True) u5 x5_3) ∧ Aside0 (Kd.R (Kd.int .i64) 2 w' w.heap.size (fun _ => True) v458 y457) ∧ Aside0 (w'.heap[gb466]? = some (.cells #[.int .i64 t462,.bool t463,.int .i64 t464] 30 (0,0))) ∧ Aside0 (Below w.heap.size w w'))
      case atStart => exact ⟨(decide (t465 > 0)),(1),q94_,q94_,H',⟨Nat.le_refl _⟩,⟨by (with_reducible repeat (first | apply Kd.R_alloc | apply Kd.R_drewN | apply Kd.R_drew));exact Kd.R_mono (Kd.R_far (p:=⟨gb466,2,none⟩) (Kd.R_far (p:=⟨gb466,1,none⟩) (Kd.R_far (p:=⟨gb466,0,none⟩) (Kd.R_types HO_5.out BK466.out (by decide)) (fun _ hk => hk.2) (.int .i64 t462)) (fun _ hk => hk.2) (.bool t463)) (fun _ hk => hk.2) (.int .i64 t464)) (fun _ hk => trivial)⟩,⟨by (with_reducible repeat (first | apply Kd.R_alloc | apply Kd.R_drewN | apply Kd.R_drew));exact Kd.R_mono (Kd.R_far (p:=⟨gb466,2,none⟩) (Kd.R_far (p:=⟨gb466,1,none⟩) (Kd.R_far (p:=⟨gb466,0,none⟩) (Kd.R_types HO_7.out BK466.out (by decide)) (fun _ hk => hk.2) (.int .i64 t462)) (fun _ hk => hk.2) (.bool t463)) (fun _ hk => hk.2) (.int .i64 t464)) (fun _ hk => trivial)⟩,⟨by (with_reducible repeat (first | refine blk_drewN ?_ _ | refine blk_drew ?_ | refine blk_alloc ?_ _));refine blk_put (cs:=#[.int .i64 t462,.bool t463,.int .i64 0]) ?_ 2 _ rfl;(with_reducible repeat (first | refine blk_drewN ?_ _ | refine blk_drew ?_ | refine blk_alloc ?_ _));refine blk_put (cs:=#[.int .i64 t462,.bool false,.int .i64 0]) ?_ 1 _ rfl;(with_reducible repeat (first | refine blk_drewN ?_ _ | refine blk_drew ?_ | refine blk_alloc ?_ _));refine blk_put (cs:=#[.int .i64 0,.bool false,.int .i64 0]) ?_ 0 _ rfl;(with_reducible repeat (first | refine blk_drewN ?_ _ | refine blk_drew ?_ | refine blk_alloc ?_ _));exact BK466.out⟩,⟨q50_⟩⟩
      clear H'
      try clear c1
      try clear c2
      try clear p2 p2
      try clear q2 q2
      try clear c3
      try clear p4 p4
      try clear q4 q4
      try clear hx4
      try clear qi4
      try clear c5
      try clear c5b0
      try clear c5b1
      try clear c6
      try clear p6 p6
      try clear c7
      try clear c9
      try clear c9b0
      try clear c10
      try clear c12
      try clear c16
      try clear c16b0
      try clear c16b1
      try clear c17
      try clear c17b0
      try clear c17b1
      try clear c18
      try clear c18b0
      try clear c18b1
      try clear c19
      try clear c24
      try clear q24 q24
      try clear c27
      try clear c28
      try clear c28b0
      try clear c29
      try clear c29b0
      try clear c31
      try clear c32
      try clear c32b0
      try clear c32b1
      try clear c33
      try clear c33b0
      try clear c33b1
      try clear c34
      try clear c34b0
      try clear c34b1
      try clear hcz38_0 hcz38_1 hcz38_2
      try clear hfz38_0 hfz38_1 hfz38_2
      try clear hx449_0
      try clear hx461_0
      try clear p449
      try clear p461
      try clear q449
      try clear q461
      obtain ⟨x12_5,x13_5,rfl,rfl,HA,HK5,HO_5,HO_7,BK466,HB⟩:=hrel
      cases gk with
      | zero => exact absurd HA.out (by simp [spec_MarksOf.l2])
      | succ k5 =>
       have H:=HA.out
       clear HA
       simp only [spec_MarksOf.l2] at H
       by_cases c39:x13_5 < t465
       ·rw [if_pos c39] at H
        have c39b0:=decide_eq_true c39
        clear c39
        by_cases c40:x12_5 = true
        ·subst c40
         rewrite [if_pos rfl] at H
         obtain ⟨ji41,hji41⟩:∃ j_:Int,(wrap64 ((rd x7_3 0) + x13_5)) = j_:=⟨_,rfl⟩
         (first | rewrite [hji41] at H | simp only [hji41] at H)
         have hji41w:(IntKind.i64.wrap ((rd x7_3 0) + x13_5)) = ji41:=(i64_w _).trans hji41
         by_cases c42:0 ≤ (ji41)
         rotate_left
         ·rw [if_neg c42] at H
          exact absurd H (by simp)
         rw [if_pos c42] at H
         have c42b0:=decide_eq_true c42
         clear c42
         by_cases c43:(ji41) < (x5_3.length:Int)
         rotate_left
         ·rw [if_neg c43] at H
          exact absurd H (by simp)
         rw [if_pos c43] at H
         have c43b0:=decide_eq_true c43
         clear c43
         have H':=Aside0.mk H
         clear H
         obtain ⟨Ao44,co44,eo44⟩:=Kd.R_slice HO_5.out
         subst eo44
         have p467:0 ≤ ((ji41):Int):=of_decide_eq_true q119_
         have q467:(ji41) < (x5_3.length:Int):=of_decide_eq_true q119_
         obtain ⟨ad467,e467,hx467_0⟩:=Kd.at_int (Kd.R_reads' HO_5.out).2.2 (ji41) p467 q467
         cases e467
         replace p467:=eq_true p467
         replace q467:=eq_true q467
         go_wp2
         go_roundg k5
         case measure => have:=HJ2.out;have:=HK2.out;have:=HK3.out;have:=HJ19.out;have:=HK5.out;omega
         case rel => exact ⟨(((rd x5_3 (ji41)) == 100)),(wrap64 (x13_5 + 1)),(by first | rfl | (simp;done) | (simp only [← hji41] <;> (first | rfl | simp)) | (simp [*];done) | (simp;decide +kernel) | (simp [wrap64];done) | (simp [bne];done)),q94_,(by first | with_reducible exact H' | (have H2_:=H';simp only [← hji41] at H2_ ⊢;with_reducible exact H2_) | exact H'),⟨q115_⟩,⟨q110_⟩,⟨q112_⟩,⟨q81_⟩,⟨q50_⟩⟩
        replace c40:=Bool.eq_false_iff.mpr c40
        subst c40
        rewrite [if_neg (show ¬ (false = true) by decide)] at H
        have H':=Aside0.mk H
        clear H
        go_wp2
        go_roundg k5
        case measure => have:=HJ2.out;have:=HK2.out;have:=HK3.out;have:=HJ19.out;have:=HK5.out;omega
        case rel => exact ⟨(false),(wrap64 (x13_5 + 1)),q94_,q94_,H',⟨q115_⟩,⟨q110_⟩,⟨q112_⟩,⟨q81_⟩,⟨q50_⟩⟩
       rw [if_neg c39] at H
       have c39b0:=decide_eq_false c39
       clear c39
       by_cases c45:x12_5 = true
       ·subst c45
        rewrite [if_pos rfl] at H
        by_cases c46:0 ≤ (rd x7_3 0)
        rotate_left
        ·rw [if_neg c46] at H
         exact absurd H (by simp)
        rw [if_pos c46] at H
        have c46b0:=decide_eq_true c46
        clear c46
        by_cases c47:(rd x7_3 0) < (x5_3.length:Int)
        rotate_left
        ·rw [if_neg c47] at H
         exact absurd H (by simp)
        rw [if_pos c47] at H
        have c47b0:=decide_eq_true c47
        clear c47
        obtain ⟨y468,hy468⟩:∃ y_:List Int,y_ = (x5_3.set ((rd x7_3 0):Int).toNat 99):=⟨_,rfl⟩
        replace H:(spec_MarksOf.l3 k5 a0 y468 y457 (rd x7_3 0) t465 1 t462 t463 t464) = some r:=by first | (rw [hy468];exact H) | exact H
        have Ny468:=Aside0.mk hy468
        clear hy468
        have H':=Aside0.mk H
        clear H
        have p48:0 ≤ ((rd x7_3 0):Int):=of_decide_eq_true q119_
        have q48:((rd x7_3 0):Int) < ((x5_3.length:Int):Int):=of_decide_eq_true q119_
        obtain ⟨go48,co48,eo48,gb48,gl48,cl48,HG48⟩:=Kd.R_form HO_5.out (by omega)
        (first | cases eo48 | (injection eo48 with ea_ en_ ec_;(first | subst ea_ | (injection ea_ with ea_;subst ea_));subst ec_;clear en_))
        have GB48:=Aside0.mk gb48
        have GG48:=Aside0.mk HG48
        clear gb48 gl48 HG48
        obtain ⟨hx48_0,hf48_0⟩:=Kd.R_celln 0 HO_5.out ((rd x7_3 0):Int) p48 q48
        replace p48:=eq_true p48
        replace q48:=eq_true q48
        have HP49:=Kd.R_putg HO_5.out ((rd x7_3 0):Int) 99
        go_wp2_with (first | ((with_reducible refine gate_store (t:=5) (p:=92) rfl ?_);refine store_event (t:=5) (p:=92) (v:=?vo_w50) (w1:=(wr.setCell ⟨go48,((rd x7_3 0):Int).toNat,none⟩ (.int .u8 99))) ?hg ?ho ?hn ?hr ?_;(case ho => rfl);(case hg => rfl);(case hn => rfl);(case hr => exact q153_);intro w50 hw;have hg:wr.grownBy w50 (some go48):=(by rw [hw];exact HP49.2);have hp_:Kd.R (Kd.int .u8) 5 w50 w.heap.size (fun _ => True) (.slice (some ⟨go48,0,none⟩) x5_3.length co48) y468:=(by rw [hw,Ny468.out];exact HP49.1);clear HP49;have n0_:=Aside0.mk (hp_);have n1_:=Aside0.mk (Kd.R_over' (v:=(.slice (some ⟨go48,0,none⟩) x5_3.length co48)) q112_ (Kd.R_typed HO_5.out) (by decide) hg);have n2_:=Aside0.mk (blk_grown (g:=gb466) (o:=.cells #[.int .i64 t462,.bool t463,.int .i64 t464] 30 (0,0)) q81_ hg (Kd.R_ne HO_5.out BK466.out (by decide)));have n3_:=Aside0.mk ((by rw [hw];exact below_set (HB.out) GB48.out:Below w.heap.size w w50));clear HO_5;clear HO_7;clear BK466;clear HB;have HO_5:=n0_;have HO_7:=n1_;have BK466:=n2_;have HB:=n3_;clear n0_ n1_ n2_ n3_;clear hg hw hp_))
        go_loopg [14] k5 (fun kq v14 w' => ∃ (x5_6:List Int) (x14_6:Int),v14 = .int .i64 x14_6 ∧ Aside0 (spec_MarksOf.l3 kq a0 x5_6 y457 (rd x7_3 0) t465 x14_6 t462 t463 t464 = some r) ∧ Aside0 (kq ≤ k5) ∧ Aside0 (Kd.R (Kd.int .u8) 5 w' w.heap.size (fun _ => True) (.slice (some ⟨go48,0,none⟩) x5_3.length co48) x5_6) ∧ Aside0 (Kd.R (Kd.int .i64) 2 w' w.heap.size (fun _ => True) v458 y457) ∧ Aside0 (w'.heap[gb466]? = some (.cells #[.int .i64 t462,.bool t463,.int .i64 t464] 30 (0,0))) ∧ Aside0 (Below w.heap.size w w'))
        case atStart => exact ⟨(y468),(1),q94_,H',⟨Nat.le_refl _⟩,⟨q110_⟩,⟨q112_⟩,⟨q81_⟩,⟨q50_⟩⟩
        clear H'
        try clear c1
        try clear c2
        try clear p2 p2
        try clear q2 q2
        try clear c3
        try clear c4
        try clear p4 p4
        try clear q4 q4
        try clear hx4
        try clear qi4
        try clear hf4
        try clear c5
        try clear c5b0
        try clear c5b1
        try clear c6
        try clear p6 p6
        try clear c7
        try clear c9
        try clear c9b0
        try clear c10
        try clear c12
        try clear c16
        try clear c16b0
        try clear c16b1
        try clear c17
        try clear c17b0
        try clear c17b1
        try clear c18
        try clear c18b0
        try clear c18b1
        try clear c19
        try clear c24
        try clear q24 q24
        try clear c27
        try clear c28
        try clear c28b0
        try clear c29
        try clear c29b0
        try clear c31
        try clear c32
        try clear c32b0
        try clear c32b1
        try clear c33
        try clear c33b0
        try clear c33b1
        try clear c34
        try clear c34b0
        try clear c34b1
        try clear c39
        try clear c39b0
        try clear c40
        try clear c42
        try clear c42b0
        try clear c43
        try clear c43b0
        try clear p44
        try clear q44
        try clear hx44
        try clear qi44
        try clear c45
        try clear c46
        try clear c46b0
        try clear p46
        try clear q46
        try clear hx46
        try clear c47
        try clear c47b0
        try clear p48 p48
        try clear q48 q48
        try clear hx48
        try clear hf48
        try clear hcz38_0 hcz38_1 hcz38_2
        try clear hfz38_0 hfz38_1 hfz38_2
        try clear hx449_0
        try clear hx461_0
        try clear hx467_0
        try clear hx48_0
        try clear p449
        try clear p461
        try clear p467
        try clear q449
        try clear q461
        try clear q467
        obtain ⟨x5_6,x14_6,rfl,HA,HK6,HO_5,HO_7,BK466,HB⟩:=hrel
        have hl5_6:=(Kd.R_reads' HO_5.out).1
        rw [hl5_6] at HO_5
        (try simp only [hl5_6])
        (try simp only [hl5_6] at BK466)
        (try simp only [hl5_6] at HO_7)
        cases gk with
        | zero => exact absurd HA.out (by simp [spec_MarksOf.l3])
        | succ k6 =>
         have H:=HA.out
         clear HA
         simp only [spec_MarksOf.l3] at H
         by_cases c51:x14_6 < t465
         ·rw [if_pos c51] at H
          have c51b0:=decide_eq_true c51
          clear c51
          obtain ⟨ji52,hji52⟩:∃ j_:Int,(wrap64 ((rd x7_3 0) + x14_6)) = j_:=⟨_,rfl⟩
          (first | rewrite [hji52] at H | simp only [hji52] at H)
          have hji52w:(IntKind.i64.wrap ((rd x7_3 0) + x14_6)) = ji52:=(i64_w _).trans hji52
          by_cases c53:0 ≤ (ji52)
          rotate_left
          ·rw [if_neg c53] at H
           exact absurd H (by simp)
          rw [if_pos c53] at H
          have c53b0:=decide_eq_true c53
          clear c53
          by_cases c54:(ji52) < (x5_6.length:Int)
          rotate_left
          ·rw [if_neg c54] at H
           exact absurd H (by simp)
          rw [if_pos c54] at H
          have c54b0:=decide_eq_true c54
          clear c54
          obtain ⟨y469,hy469⟩:∃ y_:List Int,y_ = (x5_6.set ((ji52):Int).toNat 46):=⟨_,rfl⟩
          replace H:(spec_MarksOf.l3 k6 a0 y469 y457 (rd x7_3 0) t465 (wrap64 (x14_6 + 1)) t462 t463 t464) = some r:=by first | (rw [hy469];exact H) | exact H
          have Ny469:=Aside0.mk hy469
          clear hy469
          have H':=Aside0.mk H
          clear H
          have p55:0 ≤ ((ji52):Int):=of_decide_eq_true q119_
          have q55:((ji52):Int) < ((x5_6.length:Int):Int):=of_decide_eq_true q119_
          obtain ⟨hx55_0,hf55_0⟩:=Kd.R_celln 0 HO_5.out ((ji52):Int) p55 q55
          replace p55:=eq_true p55
          replace q55:=eq_true q55
          have HP56:=Kd.R_putg HO_5.out ((ji52):Int) 46
          go_wp2_with (first | ((with_reducible refine gate_store (t:=5) (p:=102) rfl ?_);refine store_event (t:=5) (p:=102) (v:=?vo_w57) (w1:=(wr.setCell ⟨go48,((ji52):Int).toNat,none⟩ (.int .u8 46))) ?hg ?ho ?hn ?hr ?_;(case ho => rfl);(case hg => rfl);(case hn => rfl);(case hr => exact q153_);intro w57 hw;have hg:wr.grownBy w57 (some go48):=(by rw [hw];exact HP56.2);have hp_:Kd.R (Kd.int .u8) 5 w57 w.heap.size (fun _ => True) (.slice (some ⟨go48,0,none⟩) x5_6.length co48) y469:=(by rw [hw,Ny469.out];exact HP56.1);clear HP56;have n0_:=Aside0.mk (hp_);have n1_:=Aside0.mk (Kd.R_over' (v:=(.slice (some ⟨go48,0,none⟩) x5_6.length co48)) q112_ (Kd.R_typed HO_5.out) (by decide) hg);have n2_:=Aside0.mk (blk_grown (g:=gb466) (o:=.cells #[.int .i64 t462,.bool t463,.int .i64 t464] 30 (0,0)) q81_ hg (Kd.R_ne HO_5.out BK466.out (by decide)));have n3_:=Aside0.mk ((by rw [hw];exact below_set (HB.out) GB48.out:Below w.heap.size w w57));clear HO_5;clear HO_7;clear BK466;clear HB;have HO_5:=n0_;have HO_7:=n1_;have BK466:=n2_;have HB:=n3_;clear n0_ n1_ n2_ n3_;clear hg hw hp_))
          (try simp only [← hl5_6])
          go_roundg k6
          case measure => have:=HJ2.out;have:=HK2.out;have:=HK3.out;have:=HJ19.out;have:=HK5.out;have:=HK6.out;omega
          case rel => exact ⟨(y469),(wrap64 (x14_6 + 1)),q94_,(by first | with_reducible exact H' | (have H2_:=H';simp only [← hji52] at H2_ ⊢;with_reducible exact H2_) | exact H'),⟨by have:=HJ2.out;have:=HK2.out;have:=HK3.out;have:=HJ19.out;have:=HK5.out;have:=HK6.out;omega⟩,⟨q72_⟩,⟨by (try simp only [hl5_6]);(with_reducible repeat (first | apply Kd.R_alloc | apply Kd.R_drewN | apply Kd.R_drew));exact HO_7.out⟩,⟨by (try simp only [hl5_6]);(with_reducible repeat (first | refine blk_drewN ?_ _ | refine blk_drew ?_ | refine blk_alloc ?_ _));exact BK466.out⟩,⟨q50_⟩⟩
         rw [if_neg c51] at H
         have c51b0:=decide_eq_false c51
         clear c51
         replace H:=Option.bind_eq_some_iff.mp H
         obtain ⟨t470,A580,H⟩:=H
         have A58:=Aside0.mk A580
         clear A580
         by_cases c59:y457.length + t470.length < 17592186044416
         rotate_left
         ·rw [if_neg c59] at H
          exact absurd H (by simp)
         rw [if_pos c59] at H
         have LMc59:=Aside0.mk c59
         clear c59
         obtain ⟨y473,hy473⟩:∃ y_:List Int,y_ = (y457 ++ t470):=⟨_,rfl⟩
         replace H:(spec_MarksOf.l1 k6 a0 x5_6 y473) = some r:=by first | (rw [hy473];exact H) | exact H
         have Ny473:=Aside0.mk hy473
         clear hy473
         have H':=Aside0.mk H
         clear H
         have hcz60_0:wr.cell? ⟨gb466,0,none⟩ = some (.int .i64 t462):=bz_ BK466 0
         have hcz60_1:wr.cell? ⟨gb466,1,none⟩ = some (.bool t463):=bz_ BK466 1
         have hcz60_2:wr.cell? ⟨gb466,2,none⟩ = some (.int .i64 t464):=bz_ BK466 2
         have hfz60_0:=blk_frozen BK466.out 0
         have hfz60_1:=blk_frozen BK466.out 1
         have hfz60_2:=blk_frozen BK466.out 2
         go_wp2_with (first | ((with_reducible refine gate_callee (f:=77) rfl ?_);refine goesL_ (some 108) rfl rfl Tryz.func77 (by kernel_rfl) rfl #[.string a0,.int .i64 (rd x7_3 0),.agg #[.int .i64 t462,.bool t463,.int .i64 t464],.int .i64 t465] rfl q68_ ?_;(with_reducible refine (spec_l13Next.calls k6 a0 (rd x7_3 0) t462 t463 t464 t465 t470 _ A58.out).mono ?_);rintro e w61 ⟨v471,rfl,ho0,hb⟩;refine ⟨_,rfl,?_⟩;have n0_:=Aside0.mk (Kd.R_below q110_ hb);have n1_:=Aside0.mk (Kd.R_elder' q112_ (Kd.R_base ho0) hb);have n2_:=Aside0.mk (Kd.R_lower (Kd.R_new' ho0 (Kd.R_lt q112_)) (below_size q50_));have n3_:=Aside0.mk (blk_below (g:=gb466) (o:=.cells #[.int .i64 t462,.bool t463,.int .i64 t464] 30 (0,0)) q81_ hb);have n4_:=Aside0.mk (below_step q50_ hb);clear HO_5;clear HO_7;clear BK466;clear HB;have HO_5:=n0_;have HO_7:=n1_;have HO472:=n2_;have BK466:=n3_;have HB:=n4_;clear n0_ n1_ n2_ n3_ n4_;(try clear hb);(try clear ho0);obtain ⟨Ao63,co63,eo63⟩:=Kd.R_slice HO472.out;subst eo63) | ((with_reducible refine gate_builtin (b:=.append) (xs:=#[.tmp 103,.tmp 108]) rfl ?_);(try (refine gate_guard (by rfl) ?_;dsimp only));at_builtin;refine Kd.R_append_rows (Kd.int .i64) (w0:=w) w.heap.size rfl (.tmp 103) (.tmp 108) 40 2 (.int .i64 0) 8 rfl Tryz.underlying40 info2 rfl (by decide) (by omega) v458 y457 t470 _ _ _ (fun k_ => some k_ ≠ (.slice Ao63 t470.length co63:Value).ownBlock) (fun _ => False) rfl rfl ?aO ?aR (fun _ _ h => h) (fun _ h => h.elim) ?aF ?aB ?aS ?aL ?_;(case aR => repeat (first | exact (Kd.R_reads' HO472.out).2.2 | (with_reducible refine Kd.C_alloc ?_ _) | (with_reducible refine Kd.C_drewN ?_ _) | (with_reducible refine Kd.C_drew ?_)));(case aB => exact q50_);(case aF => exact (fun k_ hk => Kd.fresh' (Kd.R_lt (by (with_reducible repeat (first | apply Kd.R_alloc | apply Kd.R_drewN | apply Kd.R_drew));exact HO472.out)) k_ hk));(case aO => exact (by (with_reducible repeat (first | apply Kd.R_alloc | apply Kd.R_drewN | apply Kd.R_drew));exact Kd.R_mono HO_7.out (fun _ hk => hk.2)));(case aS => exact (below_size q50_));(case aL => have:=LMc59.out;omega);intro v474 w62 ho hb hg hat;rw [← Ny473.out] at ho;have n0_:=Aside0.mk (Kd.R_over' q110_ (Kd.R_typed q112_) (by decide) hg);have n1_:=Aside0.mk (blk_grown (g:=gb466) (o:=.cells #[.int .i64 t462,.bool t463,.int .i64 t464] 30 (0,0)) q81_ hg (Kd.R_ne HO_7.out BK466.out (by decide)));have n2_:=Aside0.mk (Kd.R_after (ok:=(fun _ => True)) (by (with_reducible repeat (first | apply Kd.R_alloc | apply Kd.R_drewN | apply Kd.R_drew));exact HO472.out) hg hat);have n3_:=Aside0.mk (hb);have n4_:=Aside0.mk (ho);clear HO_5;clear BK466;clear HO472;clear HB;clear HO_7;have HO_5:=n0_;have BK466:=n1_;have HO472:=n2_;have HB:=n3_;have HO475:=n4_;clear n0_ n1_ n2_ n3_ n4_;clear ho hb hg hat))
         (try simp only [← hl5_6])
         go_roundg k6
         case measure => have:=HJ2.out;have:=HK2.out;have:=HK3.out;have:=HJ19.out;have:=HK5.out;have:=HK6.out;omega
         case rel => exact ⟨(x5_6),(y473),H',⟨by have:=HJ2.out;have:=HK2.out;have:=HK3.out;have:=HJ19.out;have:=HK5.out;have:=HK6.out;omega⟩,⟨q72_⟩,⟨by (try simp only [hl5_6]);(with_reducible repeat (first | apply Kd.R_alloc | apply Kd.R_drewN | apply Kd.R_drew));exact Kd.R_mono HO475.out (fun _ hk => trivial)⟩,⟨q50_⟩⟩
       replace c45:=Bool.eq_false_iff.mpr c45
       subst c45
       rewrite [if_neg (show ¬ (false = true) by decide)] at H
       have H':=Aside0.mk H
       clear H
       go_wp2
       go_roundg k5
       case measure => have:=HJ2.out;have:=HK2.out;have:=HK3.out;have:=HJ19.out;have:=HK5.out;omega
       case rel => exact ⟨(x5_3),(y457),H',⟨q115_⟩,⟨q110_⟩,⟨q112_⟩,⟨q50_⟩⟩
    rw [if_neg c16] at H
    have c16b0:decide (0 < (x7_3.length:Int)) = false:=decide_eq_false c16
    have c16b1:decide (0 < x7_3.length) = false:=decide_eq_false (by omega)
    clear c16
    obtain rfl:=Option.some.inj H
    obtain ⟨Ao64,co64,eo64⟩:=Kd.R_slice HO_7.out
    subst eo64
    have hcv65:=own_string (P:=Tryz.prog) Tryz.underlying22 Tryz.underlying5 Tryz.underlying9 (Kd.own_of_R HO_5.out)
    have hcvq65:=fun m_:Nat => own_string (P:=Tryz.prog) Tryz.underlying22 Tryz.underlying5 Tryz.underlying9 (Kd.own_of_R (Kd.R_drewN HO_5.out m_))
    go_wp2
    go_ret
    exact ⟨q75_,q70_⟩
end Go.Proofs.YtodlnnoekccmmaaGreatDoor.QFnMarks
