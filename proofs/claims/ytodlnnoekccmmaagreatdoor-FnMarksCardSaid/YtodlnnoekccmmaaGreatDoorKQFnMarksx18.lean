/- The machine's side of a law,written by a program of this session for this claim. -/
import Derived.Test.YtodlnnoekccmmaaGreatDoorKQq
import Derived.Test.YtodlnnoekccmmaaGreatDoorKQFnMarksx0
import Derived.Test.YtodlnnoekccmmaaGreatDoorKQFnMarksx16
import Derived.Test.YtodlnnoekccmmaaGreatDoorKQFnMarksx17
namespace Go.Proofs.YtodlnnoekccmmaaGreatDoor.QFnMarks
open Go.Proofs.YtodlnnoekccmmaaGreatDoor.Qq
open Go.RowKit Go.Proofs.YtodlnnoekccmmaaGreatDoor.LibX Go.Proofs.YtodlnnoekccmmaaGreatDoor.LibE Go.Proofs.YtodlnnoekccmmaaGreatDoor.LibCB Go.Proofs.YtodlnnoekccmmaaGreatDoorW.PrintWords Go.Proofs.YtodlnnoekccmmaaGreatDoorW.PrintLast Go.Proofs.YtodlnnoekccmmaaGreatDoorW.PrintMore
attribute [local go_sem] max2_int min2_int max_two min_two max_three min_three max_four min_four   -- for this text's walks alone
set_option maxHeartbeats 8000000
set_option maxRecDepth 100000
set_option linter.unusedVariables false
set_option linter.unusedSimpArgs false
mutual
def spec_l1Rd_rom.l0:Nat → Int → List Int → Int → List Int → Int → Option (ByteArray × Int)
 | 0,_,_,_,_,_ => none
 | k + 1,x3,x4,x5,x1000,x1001 => if x5 < x3 then ((spec_l1Rd_below.f x1000 x1001 16).bind fun bt640 => (spec_l1Rd_rom.l1 k x3 x4 x5 (wrap64 (x5 * 256)) (wrap64 (1 + bt640.1)) x1000 bt640.2)) else ((spec_l1Rd_once.f x1000 x1001 30).bind fun bt652 => (if bt652.1 = true then (if 1 ≤ (x4.length:Int) then (some (strOfNums (x4.drop 1),bt652.2)) else (none)) else (some (strOfNums x4,bt652.2))))
def spec_l1Rd_rom.l1:Nat → Int → List Int → Int → Int → Int → List Int → Int → Option (ByteArray × Int)
 | 0,_,_,_,_,_,_,_ => none
 | k + 1,x3,x4,x5,x6,x7,x1000,x1001 => if x7 > 0 then ((spec_l1Rd_plain.f k x1000 x1001).bind fun bt642 => ((spec_InsBytes.f k bt642.1 bt642.2.1 bt642.2.2.1).bind fun t646 => (if 0 ≤ x6 then (if x6 ≤ (wrap64 ((wrap64 (x5 + 1)) * 256)) then (if (wrap64 ((wrap64 (x5 + 1)) * 256)) ≤ (x4.length:Int) then (spec_l1Rd_rom.l1 k x3 (cpy x4 (x6:Int).toNat (((wrap64 ((wrap64 (x5 + 1)) * 256)):Int).toNat - (x6:Int).toNat) (bytesOf t646)) x5 (wrap64 (x6 + (t646.size:Int))) (wrap64 (x7 - 1)) x1000 bt642.2.2.2) else (none)) else (none)) else (none)))) else (spec_l1Rd_rom.l0 k x3 x4 (wrap64 (x5 + 1)) x1000 x1001)
end
def spec_l1Rd_rom.f (k:Nat) (s0_0:List Int) (s0_1:Int):Option (ByteArray × Int):=(spec_l1Rd_below.f s0_0 s0_1 3).bind fun bt635 => (if 0 ≤ (wrap64 ((wrap64 (2 + bt635.1)) * 256)) then (if (wrap64 ((wrap64 (2 + bt635.1)) * 256):Int).toNat ≤ 281474976710656 then (spec_l1Rd_rom.l0 k (wrap64 (2 + bt635.1)) (List.replicate (wrap64 ((wrap64 (2 + bt635.1)) * 256):Int).toNat 0) 0 s0_0 bt635.2) else (none)) else (none))
theorem spec_l1Rd_rom.calls (k:Nat) (g:Nat) (s0_0:List Int) (s0_1:Int) (r1:ByteArray) (r2:Int) (w0 w:World) (hI:IsS96 w0 w g s0_0 s0_1) (hB:Below w0.heap.size w0 w) (h:spec_l1Rd_rom.f k s0_0 s0_1 = some (r1,r2)) :
  Calls Tryz.prog 85 #[.pointer (some ⟨g,0,none⟩)] w fun e w' => e = .returned (.string r1) ∧ IsS96 w0 w' g s0_0 r2 ∧ Below w0.heap.size w0 w' ∧ KeepBut w w' g none:=by
 have HI0:=Aside0.mk hI
 have HK:=Aside0.mk (KeepBut.refl w g none)
 have HL:=Aside0.mk hB.size
 clear hI
 have HW0:=Aside0.mk hB.size
 have HB:=Aside0.mk hB
 clear hB
 have H:=h;unfold spec_l1Rd_rom.f at H
 clear h
 replace H:=Option.bind_eq_some_iff.mp H
 obtain ⟨⟨t635,t636⟩,A20,H⟩:=H
 try dsimp -simprocs -eta only at H
 have A2:=Aside0.mk A20
 clear A20
 obtain ⟨ji3,hji3⟩:∃ j_:Int,(wrap64 ((wrap64 (2 + t635)) * 256)) = j_:=⟨_,rfl⟩
 (first | rewrite [hji3] at H | simp only [hji3] at H)
 (try rw [hji3] at A2)
 have hji3w:(IntKind.i64.wrap ((wrap64 (2 + t635)) * 256)) = ji3:=(i64_w _).trans hji3
 by_cases c4:0 ≤ (ji3)
 rotate_left
 ·rw [if_neg c4] at H
  exact absurd H (by simp)
 rw [if_pos c4] at H
 have c4b0:=eq_true c4
 have c4b1:=decide_eq_true c4
 clear c4
 by_cases c5:(ji3:Int).toNat ≤ 281474976710656
 rotate_left
 ·rw [if_neg c5] at H
  exact absurd H (by simp)
 rw [if_pos c5] at H
 have c5b0:=eq_true c5
 have c5b1:=decide_eq_true c5
 clear c5
 obtain ⟨y637,hy637⟩:∃ y_:List Int,y_ = (List.replicate (ji3:Int).toNat 0):=⟨_,rfl⟩
 replace H:(spec_l1Rd_rom.l0 k (wrap64 (2 + t635)) y637 0 s0_0 t636) = some (r1,r2):=by first | (rw [hy637];exact H) | exact H
 have Ny637:=Aside0.mk hy637
 clear hy637
 have H':=Aside0.mk H
 clear H
 go_enter Tryz.func85,Tryz.ntmps85
 go_wp2_with (first | ((with_reducible refine gate_callee (f:=44) rfl ?_);refine goesL_ (some 10) rfl rfl Tryz.func44 (by kernel_rfl) rfl #[.pointer (some ⟨g,0,none⟩),.int .i64 3] rfl q68_ ?_;(with_reducible refine (spec_l1Rd_below.calls g s0_0 s0_1 3 t635 t636 w0 _ ?side1 ?side2 A2.out).mono ?_);(case side1 => exact q152_);(case side2 => exact q148_);rintro e w6 ⟨rfl,hi,hb,hk⟩;refine ⟨_,rfl,?_⟩;have n0_:=Aside0.mk (KeepBut.trans q63_ hk (.inl rfl));have n1_:=Aside0.mk (hb);have n2_:=Aside0.mk (hi);clear HK;clear HB;clear HI0;have HK:=n0_;have HB:=n1_;have HI0:=n2_;clear n0_ n1_ n2_;(try clear hb);(try clear hk);(try clear hi)) | ((with_reducible refine gate_dst (N:=14) rfl ?_);refine Kd.R_make (Kd.int .u8) _ 5 rfl (N:=14) rfl 22 _ _ rfl ji3 rfl rfl Tryz.underlying22 (.int .u8 0) 1 info5 rfl (by decide) (by omega) 0 (ok:=fun _ => True) (okp:=fun _ => True) rfl (fun _ hk => hk) trivial (of_decide_eq_true q119_) (Nat.le_trans (Nat.mul_le_mul_right _ (of_decide_eq_true q119_:ji3.toNat ≤ 281474976710656)) (by omega)) (Below.refl _ _) (Nat.le_refl _) ?_;intro v638 w7 ho8 hb hg_ hnew_;clear hg_ hnew_;(first | rw [← Ny637.out] at ho8 | (simp only [Int.reduceToNat] at ho8;rw [← Ny637.out] at ho8));have n0_:=Aside0.mk (Kd.R_lower ho8 (keep_size (w:=w) (g:=g) (row:=none) q63_));have n1_:=Aside0.mk (IsS96.below q62_ hb);have n2_:=Aside0.mk (KeepBut.trans q63_ (KeepBut.of_below hb g none) (.inl rfl));have n3_:=Aside0.mk (below_step q44_ hb);clear HI0;clear HK;clear HB;have HO639:=n0_;have HI0:=n1_;have HK:=n2_;have HB:=n3_;clear n0_ n1_ n2_ n3_;clear hb ho8))
 go_loopg [5] k (fun kq v5 w' => ∃ (x4_1:List Int) (x5_1:Int) (x1001_1:Int),v5 = .int .i64 x5_1 ∧ Aside0 (spec_l1Rd_rom.l0 kq (wrap64 (2 + t635)) x4_1 x5_1 s0_0 x1001_1 = some (r1,r2)) ∧ Aside0 (kq ≤ k) ∧ Aside0 (Kd.R (Kd.int .u8) 5 w' w.heap.size (fun _ => True) v638 x4_1) ∧ Aside0 (IsS96 w0 w' g s0_0 x1001_1) ∧ Aside0 (KeepBut w w' g none) ∧ Aside0 (Below w0.heap.size w0 w'))
 case atStart => exact ⟨(y637),(0),(t636),q94_,q93_,⟨Nat.le_refl _⟩,⟨by (with_reducible repeat (first | apply Kd.R_alloc | apply Kd.R_drewN | apply Kd.R_drew));exact HO639.out⟩,⟨q62_⟩,⟨q63_⟩,⟨q44_⟩⟩
 clear H'
 try clear p2
 try clear c4
 try clear c4b0
 try clear c4b1
 try clear c5
 try clear c5b0
 try clear c5b1
 try clear p6
 try clear c8
 obtain ⟨x4_1,x5_1,x1001_1,rfl,HA,HK1,HO_4,HI0,HK,HB⟩:=hrel
 cases gk with
 | zero => exact absurd HA.out (by simp [spec_l1Rd_rom.l0])
 | succ k1 =>
  have H:=HA.out
  clear HA
  simp only [spec_l1Rd_rom.l0] at H
  by_cases c9:x5_1 < (wrap64 (2 + t635))
  ·rw [if_pos c9] at H
   have c9b0:=decide_eq_true c9
   clear c9
   replace H:=Option.bind_eq_some_iff.mp H
   obtain ⟨⟨t640,t641⟩,A100,H⟩:=H
   try dsimp -simprocs -eta only at H
   have A10:=Aside0.mk A100
   clear A100
   have H':=Aside0.mk H
   clear H
   go_wp2_with (first | ((with_reducible refine gate_callee (f:=44) rfl ?_);refine goesL_ (some 23) rfl rfl Tryz.func44 (by kernel_rfl) rfl #[.pointer (some ⟨g,0,none⟩),.int .i64 16] rfl q68_ ?_;(with_reducible refine (spec_l1Rd_below.calls g s0_0 x1001_1 16 t640 t641 w0 _ ?side1 ?side2 A10.out).mono ?_);(case side1 => exact q152_);(case side2 => exact q148_);rintro e w11 ⟨rfl,hi,hb,hk⟩;refine ⟨_,rfl,?_⟩;have n0_:=Aside0.mk (Kd.R_mono (Kd.R_keep (IsS96.apart (show IsS96 w0 _ g s0_0 x1001_1 from by repeat (first | (with_reducible first | exact HI0.out | apply IsS96.alloc | apply IsS96.drewN | apply IsS96.drew | apply IsS96.set_1) | exact HI0.out)) q111_ (by decide)) hk (fun _ h => h.2)) (fun _ h => h.1));have n1_:=Aside0.mk (KeepBut.trans q63_ hk (.inl rfl));have n2_:=Aside0.mk (hb);have n3_:=Aside0.mk (hi);clear HO_4;clear HK;clear HB;clear HI0;have HO_4:=n0_;have HK:=n1_;have HB:=n2_;have HI0:=n3_;clear n0_ n1_ n2_ n3_;(try clear hb);(try clear hk);(try clear hi)))
   go_loopg [6,7] k1 (fun kq v6 v7 w' => ∃ (x4_2:List Int) (x6_2:Int) (x7_2:Int) (x1001_2:Int),v6 = .int .i64 x6_2 ∧ v7 = .int .i64 x7_2 ∧ Aside0 (spec_l1Rd_rom.l1 kq (wrap64 (2 + t635)) x4_2 x5_1 x6_2 x7_2 s0_0 x1001_2 = some (r1,r2)) ∧ Aside0 (kq ≤ k1) ∧ Aside0 (Kd.R (Kd.int .u8) 5 w' w.heap.size (fun _ => True) v638 x4_2) ∧ Aside0 (IsS96 w0 w' g s0_0 x1001_2) ∧ Aside0 (KeepBut w w' g none) ∧ Aside0 (Below w0.heap.size w0 w'))
   case atStart => exact ⟨(x4_1),(wrap64 (x5_1 * 256)),(wrap64 (1 + t640)),(t641),q94_,q94_,q93_,⟨Nat.le_refl _⟩,⟨q111_⟩,⟨q62_⟩,⟨q63_⟩,⟨q44_⟩⟩
   clear H'
   try clear p2 p2
   try clear c4
   try clear c4b0
   try clear c4b1
   try clear c5
   try clear c5b0
   try clear c5b1
   try clear p6 p6
   try clear c8
   try clear c9
   try clear c9b0
   obtain ⟨x4_2,x6_2,x7_2,x1001_2,rfl,rfl,HA,HK2,HO_4,HI0,HK,HB⟩:=hrel
   cases gk with
   | zero => exact absurd HA.out (by simp [spec_l1Rd_rom.l1])
   | succ k2 =>
    have H:=HA.out
    clear HA
    simp only [spec_l1Rd_rom.l1] at H
    by_cases c12:x7_2 > 0
    ·rw [if_pos c12] at H
     have c12b0:decide (0 < x7_2) = true:=decide_eq_true c12
     clear c12
     replace H:=Option.bind_eq_some_iff.mp H
     obtain ⟨⟨t642,t643,t644,t645⟩,A130,H⟩:=H
     try dsimp -simprocs -eta only at H
     have A13:=Aside0.mk A130
     clear A130
     replace H:=Option.bind_eq_some_iff.mp H
     obtain ⟨t646,A140,H⟩:=H
     have A14:=Aside0.mk A140
     clear A140
     by_cases c15:0 ≤ x6_2
     rotate_left
     ·rw [if_neg c15] at H
      exact absurd H (by simp)
     rw [if_pos c15] at H
     have c15b0:=eq_true c15
     have c15b1:=decide_eq_true c15
     clear c15
     by_cases c16:x6_2 ≤ (wrap64 ((wrap64 (x5_1 + 1)) * 256))
     rotate_left
     ·rw [if_neg c16] at H
      exact absurd H (by simp)
     rw [if_pos c16] at H
     have c16b0:=eq_true c16
     have c16b1:=decide_eq_true c16
     by_cases c17:(wrap64 ((wrap64 (x5_1 + 1)) * 256)) ≤ (x4_2.length:Int)
     rotate_left
     ·rw [if_neg c17] at H
      exact absurd H (by simp)
     rw [if_pos c17] at H
     have c17b0:=eq_true c17
     have c17b1:=decide_eq_true c17
     obtain ⟨y647,hy647⟩:∃ y_:List Int,y_ = ((x4_2.take ((wrap64 ((wrap64 (x5_1 + 1)) * 256)):Int).toNat).drop (x6_2:Int).toNat):=⟨_,rfl⟩
     replace H:(spec_l1Rd_rom.l1 k2 (wrap64 (2 + t635)) (cpy x4_2 (x6_2:Int).toNat (((wrap64 ((wrap64 (x5_1 + 1)) * 256)):Int).toNat - (x6_2:Int).toNat) (bytesOf t646)) x5_1 (wrap64 (x6_2 + (t646.size:Int))) (wrap64 (x7_2 - 1)) s0_0 t645) = some (r1,r2):=by first | (rw [hy647];exact H) | exact H
     have Ny647:=Aside0.mk hy647
     clear hy647
     obtain ⟨y651,hy651⟩:∃ y_:List Int,y_ = (cpy x4_2 (x6_2:Int).toNat (((wrap64 ((wrap64 (x5_1 + 1)) * 256)):Int).toNat - (x6_2:Int).toNat) (bytesOf t646)):=⟨_,rfl⟩
     replace H:(spec_l1Rd_rom.l1 k2 (wrap64 (2 + t635)) y651 x5_1 (wrap64 (x6_2 + (t646.size:Int))) (wrap64 (x7_2 - 1)) s0_0 t645) = some (r1,r2):=by first | (rw [hy651];exact H) | exact H
     have Ny651:=Aside0.mk hy651
     clear hy651
     have H':=Aside0.mk H
     clear H
     go_wp2_with (first | ((with_reducible refine gate_callee (f:=125) rfl ?_);refine goesL_ (some 30) rfl rfl Tryz.func125 (by kernel_rfl) rfl #[.pointer (some ⟨g,0,none⟩)] rfl q68_ ?_;(with_reducible refine (spec_l1Rd_plain.calls k2 g s0_0 x1001_2 t642 t643 t644 t645 w0 _ ?side1 ?side2 A13.out).mono ?_);(case side1 => exact q152_);(case side2 => exact q148_);rintro e w18 ⟨rfl,hi,hb,hk⟩;refine ⟨_,rfl,?_⟩;have n0_:=Aside0.mk (Kd.R_mono (Kd.R_keep (IsS96.apart (show IsS96 w0 _ g s0_0 x1001_2 from by repeat (first | (with_reducible first | exact HI0.out | apply IsS96.alloc | apply IsS96.drewN | apply IsS96.drew | apply IsS96.set_1) | exact HI0.out)) q111_ (by decide)) hk (fun _ h => h.2)) (fun _ h => h.1));have n1_:=Aside0.mk (KeepBut.trans q63_ hk (.inl rfl));have n2_:=Aside0.mk (hb);have n3_:=Aside0.mk (hi);clear HO_4;clear HK;clear HB;clear HI0;have HO_4:=n0_;have HK:=n1_;have HB:=n2_;have HI0:=n3_;clear n0_ n1_ n2_ n3_;(try clear hb);(try clear hk);(try clear hi)) | ((with_reducible refine gate_callee (f:=19) rfl ?_);refine goesL_ (some 31) rfl rfl Tryz.func19 (by kernel_rfl) rfl #[.agg #[.int .i64 t642,.bool t643,.int .i64 t644]] rfl q68_ ?_;(with_reducible refine (spec_InsBytes.calls k2 t642 t643 t644 t646 _ A14.out).mono ?_);rintro e w19 ⟨rfl,hb⟩;refine ⟨_,rfl,?_⟩;have n0_:=Aside0.mk (Kd.R_below q111_ hb);have n1_:=Aside0.mk (IsS96.below q62_ hb);have n2_:=Aside0.mk (KeepBut.trans q63_ (KeepBut.of_below hb g none) (.inl rfl));have n3_:=Aside0.mk (below_step q44_ hb);clear HO_4;clear HI0;clear HK;clear HB;have HO_4:=n0_;have HI0:=n1_;have HK:=n2_;have HB:=n3_;clear n0_ n1_ n2_ n3_;(try clear hb);obtain ⟨Ao21,co21,eo21⟩:=Kd.R_slice HO_4.out;subst eo21;have q20:((wrap64 ((wrap64 (x5_1 + 1)) * 256)):Int) ≤ ((x4_2.length:Int):Int):=of_decide_eq_true q119_;obtain ⟨i020,hi020,_,hsz20,_⟩:=info_parts info5;have hroom20:x4_2.length ≤ co21:=(Kd.R_reads' HO_4.out).2.1;have hC20:Kd.C (Kd.int .u8) _ Ao21 x4_2.length x4_2:=(Kd.R_reads' HO_4.out).2.2;have ql20:(x6_2:Int) ≤ ((wrap64 ((wrap64 (x5_1 + 1)) * 256)):Int):=of_decide_eq_true q119_;have q020:(0:Int) ≤ (x6_2:Int):=of_decide_eq_true q119_;have hcut20:=cut_mid (P:=Tryz.prog) 22 5 .i64 .i64 Tryz.underlying22 hi020 1 hsz20 Ao21 x4_2.length co21 x6_2 (wrap64 ((wrap64 (x5_1 + 1)) * 256)) q020 ql20 q20 hroom20;have hr20:=Kd.C_mid (lo:=(x6_2:Int).toNat) (hi:=((wrap64 ((wrap64 (x5_1 + 1)) * 256)):Int).toNat) (c:=co21) hC20 (by omega) (by omega) hroom20;obtain ⟨A20,hA20⟩:∃ A1,A1 = (if co21 = (x6_2:Int).toNat then Ao21 else (Ao21:Option Addr).map (·.add ((x6_2:Int).toNat * 1))):=⟨_,rfl⟩;obtain ⟨c20,hc20⟩:∃ c1,c1 = co21 - (x6_2:Int).toNat:=⟨_,rfl⟩;have hy20:y647.length = ((wrap64 ((wrap64 (x5_1 + 1)) * 256)):Int).toNat - (x6_2:Int).toNat:=(by rw [Ny647.out,List.length_drop,List.length_take] <;> omega);rw [show ((x4_2).take ((wrap64 ((wrap64 (x5_1 + 1)) * 256)):Int).toNat).drop (x6_2:Int).toNat = y647 from Ny647.out.symm] at hr20;replace hr20:Kd.C (Kd.int .u8) _ A20 y647.length y647:=(by rw [hA20];exact hr20);rw [← hy20,← hA20,← hc20] at hcut20;have HR650:=Aside0.mk hr20;have HC650:=Aside0.mk (show y647.length ≤ c20 from by rw [hy20,hc20];exact Nat.sub_le_sub_right (Nat.le_trans (by omega) hroom20) _);clear hr20 hC20 hroom20 hi020 hsz20 hc20;have KY20:=Aside0.mk hy20;have KA20:=Aside0.mk hA20;clear hy20 hA20;have KL20:=Aside0.mk (show ((wrap64 ((wrap64 (x5_1 + 1)) * 256)):Int).toNat ≤ x4_2.length from by omega);have KM20:=Aside0.mk (show (x6_2:Int).toNat ≤ ((wrap64 ((wrap64 (x5_1 + 1)) * 256)):Int).toNat from by omega);replace q20:=eq_true q20) | ((with_reducible refine gate_builtin (b:=.copy) rfl ?_);have e_:=(Kd.R_reads' HO_4.out).1;have hy1_:=KY20.out;have b0_:(0:Int) ≤ (x6_2:Int):=of_decide_eq_true q119_;have b1_:(x6_2:Int) ≤ ((wrap64 ((wrap64 (x5_1 + 1)) * 256)):Int):=of_decide_eq_true q119_;have b2_:((wrap64 ((wrap64 (x5_1 + 1)) * 256)):Int) ≤ ((x4_2.length:Int):Int):=of_decide_eq_true q119_;have hm_:y647.length = (((wrap64 ((wrap64 (x5_1 + 1)) * 256)):Int).toNat - (x6_2:Int).toNat):=(by omega);have hv_:cpy x4_2 (x6_2:Int).toNat y647.length (bytesOf t646) = y651:=(by rw [Ny651.out];first | done | rw [hm_]);refine R_copy w.heap.size rfl (.tmp 37) _ 22 _ 5 rfl Tryz.underlying22 (by kernel_rfl) (A0:=Ao21) (n:=x4_2.length) (c:=co21) (m:=y647.length) (lo:=(x6_2:Int).toNat) rfl rfl ?hA q111_ ?hl (Below.refl _ _) (keep_size (w:=w) (g:=g) (row:=none) q63_) ?_;(case hA => exact .inr KA20.out);(case hl => omega);intro w22 ho hb hg;rw [hv_] at ho;clear e_ hm_ hv_ hy1_ b0_ b1_ b2_;have n0_:=Aside0.mk (ho);have n1_:=Aside0.mk (IsS96.grown q62_ hg (IsS96.own_ne HI0.out HO_4.out (by decide)));have n2_:=Aside0.mk (below_weaken q44_ HL.out hb);have n3_:=Aside0.mk (KeepBut.trans q63_ (KeepBut.of_grown hg g) (Kd.R_base2 HO_4.out));clear HO_4;clear HI0;clear HB;clear HK;have HO_4:=n0_;have HI0:=n1_;have HB:=n2_;have HK:=n3_;clear n0_ n1_ n2_ n3_;clear ho hb hg))
     go_roundg k2
     case measure => have:=HK1.out;have:=HK2.out;omega
     case rel => exact ⟨(y651),(wrap64 (x6_2 + (t646.size:Int))),(wrap64 (x7_2 - 1)),(t645),q94_,q94_,q93_,⟨q131_⟩,⟨q111_⟩,⟨q62_⟩,⟨q63_⟩,⟨q44_⟩⟩
    rw [if_neg c12] at H
    have c12b0:decide (0 < x7_2) = false:=decide_eq_false c12
    clear c12
    have H':=Aside0.mk H
    clear H
    go_wp2
    go_roundg k2
    case measure => have:=HK1.out;have:=HK2.out;omega
    case rel => exact ⟨(x4_2),(wrap64 (x5_1 + 1)),(x1001_2),q94_,q93_,⟨q131_⟩,⟨q111_⟩,⟨q62_⟩,⟨q63_⟩,⟨q44_⟩⟩
  rw [if_neg c9] at H
  have c9b0:=decide_eq_false c9
  clear c9
  replace H:=Option.bind_eq_some_iff.mp H
  obtain ⟨⟨t652,t653⟩,A240,H⟩:=H
  try dsimp -simprocs -eta only at H
  have A24:=Aside0.mk A240
  clear A240
  by_cases c25:t652 = true
  ·subst c25
   rewrite [if_pos rfl] at H
   by_cases c26:1 ≤ (x4_1.length:Int)
   rotate_left
   ·rw [if_neg c26] at H
    exact absurd H (by simp)
   rw [if_pos c26] at H
   have c26b0:=eq_true c26
   have c26b1:=decide_eq_true c26
   clear c26
   obtain ⟨y654,hy654⟩:∃ y_:List Int,y_ = (x4_1.drop 1):=⟨_,rfl⟩
   replace H:(some (strOfNums y654,t653)) = some (r1,r2):=by first | (rw [hy654];exact H) | exact H
   have Ny654:=Aside0.mk hy654
   clear hy654
   simp only [Option.some.injEq,Prod.mk.injEq] at H
   obtain ⟨rfl,rfl⟩:=H
   go_wp2_with (first | ((with_reducible refine gate_callee (f:=45) rfl ?_);refine goesL_ (some 45) rfl rfl Tryz.func45 (by kernel_rfl) rfl #[.pointer (some ⟨g,0,none⟩),.int .i64 30] rfl q68_ ?_;(with_reducible refine (spec_l1Rd_once.calls g s0_0 x1001_1 30 true t653 w0 _ ?side1 ?side2 A24.out).mono ?_);(case side1 => exact q152_);(case side2 => exact q148_);rintro e w27 ⟨rfl,hi,hb,hk⟩;refine ⟨_,rfl,?_⟩;have n0_:=Aside0.mk (Kd.R_mono (Kd.R_keep (IsS96.apart (show IsS96 w0 _ g s0_0 x1001_1 from by repeat (first | (with_reducible first | exact HI0.out | apply IsS96.alloc | apply IsS96.drewN | apply IsS96.drew | apply IsS96.set_1) | exact HI0.out)) q111_ (by decide)) hk (fun _ h => h.2)) (fun _ h => h.1));have n1_:=Aside0.mk (KeepBut.trans q63_ hk (.inl rfl));have n2_:=Aside0.mk (hb);have n3_:=Aside0.mk (hi);clear HO_4;clear HK;clear HB;clear HI0;have HO_4:=n0_;have HK:=n1_;have HB:=n2_;have HI0:=n3_;clear n0_ n1_ n2_ n3_;(try clear hb);(try clear hk);(try clear hi);obtain ⟨Ao29,co29,eo29⟩:=Kd.R_slice HO_4.out;subst eo29;have q28:(1:Int) ≤ ((x4_1.length:Int):Int):=of_decide_eq_true q119_;obtain ⟨i028,hi028,_,hsz28,_⟩:=info_parts info5;have hroom28:x4_1.length ≤ co29:=(Kd.R_reads' HO_4.out).2.1;have hC28:Kd.C (Kd.int .u8) _ Ao29 x4_1.length x4_1:=(Kd.R_reads' HO_4.out).2.2;have hcut28:=cut_from (P:=Tryz.prog) 22 5 .i64 Tryz.underlying22 hi028 1 hsz28 Ao29 x4_1.length co29 1 (by omega) q28;have hr28:=Kd.C_drop (m:=(1:Int).toNat) (c:=co29) hC28 (by omega) hroom28;obtain ⟨A28,hA28⟩:∃ A1,A1 = (if co29 = (1:Int).toNat then Ao29 else (Ao29:Option Addr).map (·.add ((1:Int).toNat * 1))):=⟨_,rfl⟩;obtain ⟨c28,hc28⟩:∃ c1,c1 = co29 - (1:Int).toNat:=⟨_,rfl⟩;have hy28:y654.length = x4_1.length - (1:Int).toNat:=(by rw [Ny654.out,List.length_drop] <;> omega);rw [show (x4_1).drop (1:Int).toNat = y654 from Ny654.out.symm] at hr28;replace hr28:Kd.C (Kd.int .u8) _ A28 y654.length y654:=(by rw [hA28];exact hr28);rw [← hy28,← hA28,← hc28] at hcut28;have HR657:=Aside0.mk hr28;have HC657:=Aside0.mk (show y654.length ≤ c28 from by rw [hy28,hc28];exact Nat.sub_le_sub_right hroom28 _);clear hr28 hC28 hroom28 hi028 hsz28 hc28;have KY28:=Aside0.mk hy28;have KA28:=Aside0.mk hA28;clear hy28 hA28;have KL28:=Aside0.mk (show 1 ≤ x4_1.length from by omega);replace q28:=eq_true q28;have hcv30:=Kd.C_string (P:=Tryz.prog) (A:=A28) (c:=c28) Tryz.underlying22 Tryz.underlying5 Tryz.underlying9 (by repeat (first | (with_reducible exact HR657.out) | (with_reducible refine Kd.C_alloc ?_ _) | (with_reducible refine Kd.C_drewN ?_ _) | (with_reducible refine Kd.C_drew ?_) | exact HR657.out))))
   go_ret
   exact ⟨q32_,q62_,q44_,q63_⟩
  replace c25:=Bool.eq_false_iff.mpr c25
  subst c25
  rewrite [if_neg (show ¬ (false = true) by decide)] at H
  simp only [Option.some.injEq,Prod.mk.injEq] at H
  obtain ⟨rfl,rfl⟩:=H
  go_wp2_with (first | ((with_reducible refine gate_callee (f:=45) rfl ?_);refine goesL_ (some 45) rfl rfl Tryz.func45 (by kernel_rfl) rfl #[.pointer (some ⟨g,0,none⟩),.int .i64 30] rfl q68_ ?_;(with_reducible refine (spec_l1Rd_once.calls g s0_0 x1001_1 30 false t653 w0 _ ?side1 ?side2 A24.out).mono ?_);(case side1 => exact q152_);(case side2 => exact q148_);rintro e w31 ⟨rfl,hi,hb,hk⟩;refine ⟨_,rfl,?_⟩;have n0_:=Aside0.mk (Kd.R_mono (Kd.R_keep (IsS96.apart (show IsS96 w0 _ g s0_0 x1001_1 from by repeat (first | (with_reducible first | exact HI0.out | apply IsS96.alloc | apply IsS96.drewN | apply IsS96.drew | apply IsS96.set_1) | exact HI0.out)) q111_ (by decide)) hk (fun _ h => h.2)) (fun _ h => h.1));have n1_:=Aside0.mk (KeepBut.trans q63_ hk (.inl rfl));have n2_:=Aside0.mk (hb);have n3_:=Aside0.mk (hi);clear HO_4;clear HK;clear HB;clear HI0;have HO_4:=n0_;have HK:=n1_;have HB:=n2_;have HI0:=n3_;clear n0_ n1_ n2_ n3_;(try clear hb);(try clear hk);(try clear hi);have hcv32:=own_string (P:=Tryz.prog) Tryz.underlying22 Tryz.underlying5 Tryz.underlying9 (Kd.own_of_R HO_4.out);have hcvq32:=fun m_:Nat => own_string (P:=Tryz.prog) Tryz.underlying22 Tryz.underlying5 Tryz.underlying9 (Kd.own_of_R (Kd.R_drewN HO_4.out m_))))
  go_ret
  exact ⟨q32_,q62_,q44_,q63_⟩
def spec_DrawMarksOf.l0:Nat → ByteArray → List Int → Int → List Int → Int → Option (ByteArray × List Int)
 | 0,_,_,_,_,_ => none
 | k + 1,x5,x6,x7,x661000,x661001 => if x7 > 0 then ((spec_l1Rd_below.f x661000 x661001 600).bind fun bt668 => (if x6.length < 17592186044416 then (spec_DrawMarksOf.l0 k x5 (x6 ++ [bt668.1]) (wrap64 (x7 - 1)) x661000 bt668.2) else (none))) else (some (x5,x6))
def spec_DrawMarksOf.f (k:Nat) (l0:List Int):Option (ByteArray × List Int):=(spec_l1Open.f l0).bind fun bt658 => ((spec_l1Rd_rom.f k bt658.1 bt658.2).bind fun bt661 => ((spec_l1Rd_below.f bt658.1 bt661.2 3).bind fun bt666 => (spec_DrawMarksOf.l0 k bt661.1 (([0]:List Int)) bt666.1 bt658.1 bt666.2)))
theorem spec_DrawMarksOf.calls (k:Nat) (A0:Option Addr) (c0:Nat) (l0:List Int) (r1:ByteArray) (r2:List Int) (w:World) (hr0:Kd.C (Kd.int .u8) w A0 l0.length l0) (hc0:l0.length ≤ c0) (h:spec_DrawMarksOf.f k l0 = some (r1,r2)) :
  Calls Tryz.prog 35 #[.slice A0 l0.length c0] w fun e w' => ∃ v1_:Value,e = .returned (.tuple #[.string r1,v1_]) ∧ Kd.R (Kd.int .i64) 2 w' w.heap.size (fun _ => True) v1_ r2 ∧ Below w.heap.size w w':=by
 have HR0:=Aside0.mk hr0
 have HC0:=Aside0.mk hc0
 clear hr0 hc0
 have HB:=Aside0.mk (Below.refl w.heap.size w)
 have H:=h;unfold spec_DrawMarksOf.f at H
 clear h
 replace H:=Option.bind_eq_some_iff.mp H
 obtain ⟨⟨t658,t659⟩,A20,H⟩:=H
 try dsimp -simprocs -eta only at H
 have A2:=Aside0.mk A20
 clear A20
 replace H:=Option.bind_eq_some_iff.mp H
 obtain ⟨⟨t661,t662⟩,A30,H⟩:=H
 try dsimp -simprocs -eta only at H
 have A3:=Aside0.mk A30
 clear A30
 obtain ⟨y663,hy663⟩:∃ y_:List Int,y_ = (([0]:List Int)):=⟨_,rfl⟩
 replace H:((spec_l1Rd_below.f t658 t662 3).bind fun bt666 => (spec_DrawMarksOf.l0 k t661 y663 bt666.1 t658 bt666.2)) = some (r1,r2):=by first | (rw [hy663];exact H) | exact H
 have Ny663:=Aside0.mk hy663
 clear hy663
 replace H:=Option.bind_eq_some_iff.mp H
 obtain ⟨⟨t666,t667⟩,A40,H⟩:=H
 try dsimp -simprocs -eta only at H
 have A4:=Aside0.mk A40
 clear A40
 have H':=Aside0.mk H
 clear H
 go_enter Tryz.func35,Tryz.ntmps35
 go_wp2_with (first | ((with_reducible refine gate_callee (f:=43) rfl ?_);refine goesL_ (some 9) rfl rfl Tryz.func43 (by kernel_rfl) rfl #[.slice A0 l0.length c0] rfl q68_ ?_;(with_reducible refine (spec_l1Open.calls _ _ l0 t658 t659 w _ ?side1 ?side2 ?side3 A2.out).mono ?_);(case side1 => repeat (first | (with_reducible first | exact HB.out | apply below_alloc | apply pw_below_drewN | apply below_drew1) | exact HB.out));(case side2 => exact HR0.out);(case side3 => exact HC0.out);rintro e w5 ⟨g660,rfl,hi,hb,hb2⟩;refine ⟨_,rfl,?_⟩;have n0_:=Aside0.mk (hb);have n1_:=Aside0.mk (hi);clear HB;have HB:=n0_;have HI660:=n1_;clear n0_ n1_;(try clear hb);(try clear hb2);(try clear hi)) | ((with_reducible refine gate_callee (f:=85) rfl ?_);refine goesL_ (some 11) rfl rfl Tryz.func85 (by kernel_rfl) rfl #[.pointer (some ⟨g660,0,none⟩)] rfl q68_ ?_;(with_reducible refine (spec_l1Rd_rom.calls k g660 t658 t659 t661 t662 w _ ?side1 ?side2 A3.out).mono ?_);(case side1 => exact q150_);(case side2 => exact q146_);rintro e w6 ⟨rfl,hi,hb,hk⟩;refine ⟨_,rfl,?_⟩;have n0_:=Aside0.mk (hb);have n1_:=Aside0.mk (hi);clear HB;clear HI660;have HB:=n0_;have HI660:=n1_;clear n0_ n1_;(try clear hb);(try clear hk);(try clear hi)) | ((with_reducible refine gate_dst (N:=12) rfl ?_);refine Kd.R_lit (Kd.int .i64) _ 2 ?hg (N:=12) ?hd (xs:=([0]:List Int)) (inner:=[.int .i64 0]) (ok:=fun _ => True) (okp:=fun _ => True) ?hr ?hp (fun _ hk => hk) trivial (Below.refl _ _) (Nat.le_refl _) (by simp) ?_;(case hd => rfl);(case hg => rfl);(case hr => exact q153_);(case hp => exact (Reps.one (show Kd.M (Kd.int .i64) _ _ _ 0 [.int .i64 0] from rfl) (Reps.none _ _)));intro v664 w7 ho8 hb hg_ hnew_;clear hg_ hnew_;(first | rw [← Ny663.out] at ho8 | (simp only [Int.reduceToNat] at ho8;rw [← Ny663.out] at ho8));have n0_:=Aside0.mk (Kd.R_lower ho8 (below_size q43_));have n1_:=Aside0.mk (IsS96.below q61_ hb);have n2_:=Aside0.mk (below_step q43_ hb);clear HI660;clear HB;have HO665:=n0_;have HI660:=n1_;have HB:=n2_;clear n0_ n1_ n2_;clear hb ho8) | ((with_reducible refine gate_callee (f:=44) rfl ?_);refine goesL_ (some 14) rfl rfl Tryz.func44 (by kernel_rfl) rfl #[.pointer (some ⟨g660,0,none⟩),.int .i64 3] rfl q68_ ?_;(with_reducible refine (spec_l1Rd_below.calls g660 t658 t662 3 t666 t667 w _ ?side1 ?side2 A4.out).mono ?_);(case side1 => exact q150_);(case side2 => exact q146_);rintro e w9 ⟨rfl,hi,hb,hk⟩;refine ⟨_,rfl,?_⟩;have n0_:=Aside0.mk (Kd.R_mono (Kd.R_keep (IsS96.apart (show IsS96 w _ g660 t658 t662 from by repeat (first | (with_reducible first | exact HI660.out | apply IsS96.alloc | apply IsS96.drewN | apply IsS96.drew | apply IsS96.set_1) | exact HI660.out)) (by (with_reducible repeat (first | apply Kd.R_alloc | apply Kd.R_drewN | apply Kd.R_drew));exact HO665.out) (by decide)) hk (fun _ h => h.2)) (fun _ h => h.1));have n1_:=Aside0.mk (hb);have n2_:=Aside0.mk (hi);clear HO665;clear HB;clear HI660;have HO665:=n0_;have HB:=n1_;have HI660:=n2_;clear n0_ n1_ n2_;(try clear hb);(try clear hk);(try clear hi)))
 go_loopg [6,7] k (fun kq v6 v7 w' => ∃ (x6_1:List Int) (x7_1:Int) (x661001_1:Int),v7 = .int .i64 x7_1 ∧ Aside0 (spec_DrawMarksOf.l0 kq t661 x6_1 x7_1 t658 x661001_1 = some (r1,r2)) ∧ Aside0 (kq ≤ k) ∧ Aside0 (Kd.R (Kd.int .i64) 2 w' w.heap.size (fun _ => True) v6 x6_1) ∧ Aside0 (IsS96 w w' g660 t658 x661001_1) ∧ Aside0 (Below w.heap.size w w'))
 case atStart => exact ⟨(y663),(t666),(t667),q94_,H',⟨Nat.le_refl _⟩,⟨by (with_reducible repeat (first | apply Kd.R_alloc | apply Kd.R_drewN | apply Kd.R_drew));exact HO665.out⟩,⟨q61_⟩,⟨q43_⟩⟩
 clear H'
 try clear p2
 try clear c3
 try clear c4
 try clear p6
 try clear c8
 obtain ⟨x6_1,x7_1,x661001_1,rfl,HA,HK1,HO_6,HI660,HB⟩:=hrel
 cases gk with
 | zero => exact absurd HA.out (by simp [spec_DrawMarksOf.l0])
 | succ k1 =>
  have H:=HA.out
  clear HA
  simp only [spec_DrawMarksOf.l0] at H
  by_cases c10:x7_1 > 0
  ·rw [if_pos c10] at H
   have c10b0:decide (0 < x7_1) = true:=decide_eq_true c10
   clear c10
   replace H:=Option.bind_eq_some_iff.mp H
   obtain ⟨⟨t668,t669⟩,A110,H⟩:=H
   try dsimp -simprocs -eta only at H
   have A11:=Aside0.mk A110
   clear A110
   by_cases c12:x6_1.length < 17592186044416
   rotate_left
   ·rw [if_neg c12] at H
    exact absurd H (by simp)
   rw [if_pos c12] at H
   have LMc12:=Aside0.mk c12
   clear c12
   obtain ⟨y670,hy670⟩:∃ y_:List Int,y_ = (x6_1 ++ [t668]):=⟨_,rfl⟩
   replace H:(spec_DrawMarksOf.l0 k1 t661 y670 (wrap64 (x7_1 - 1)) t658 t669) = some (r1,r2):=by first | (rw [hy670];exact H) | exact H
   have Ny670:=Aside0.mk hy670
   clear hy670
   have H':=Aside0.mk H
   clear H
   go_wp2_with (first | ((with_reducible refine gate_callee (f:=44) rfl ?_);refine goesL_ (some 21) rfl rfl Tryz.func44 (by kernel_rfl) rfl #[.pointer (some ⟨g660,0,none⟩),.int .i64 600] rfl q68_ ?_;(with_reducible refine (spec_l1Rd_below.calls g660 t658 x661001_1 600 t668 t669 w _ ?side1 ?side2 A11.out).mono ?_);(case side1 => exact q150_);(case side2 => exact q146_);rintro e w13 ⟨rfl,hi,hb,hk⟩;refine ⟨_,rfl,?_⟩;have n0_:=Aside0.mk (Kd.R_mono (Kd.R_keep (IsS96.apart (show IsS96 w _ g660 t658 x661001_1 from by repeat (first | (with_reducible first | exact HI660.out | apply IsS96.alloc | apply IsS96.drewN | apply IsS96.drew | apply IsS96.set_1) | exact HI660.out)) q114_ (by decide)) hk (fun _ h => h.2)) (fun _ h => h.1));have n1_:=Aside0.mk (hb);have n2_:=Aside0.mk (hi);clear HO_6;clear HB;clear HI660;have HO_6:=n0_;have HB:=n1_;have HI660:=n2_;clear n0_ n1_ n2_;(try clear hb);(try clear hk);(try clear hi)) | ((with_reducible refine gate_builtin (b:=.append) (xs:=#[.tmp 19,.tmp 22]) rfl ?_);at_builtin;refine Kd.R_append (Kd.int .i64) (w0:=w) w.heap.size rfl (.tmp 19) (.tmp 22) 40 2 (.int .i64 0) 8 rfl Tryz.underlying40 info2 rfl (by decide) (by omega) u6 x6_1 t668 [.int .i64 t668] (fun _ => True) (fun _ => False) rfl rfl ?aP (fun _ hk => hk.elim) ?aF ?aO ?aB ?aS ?aL ?_;(case aP => exact rfl);(case aB => exact q43_);(case aF => exact (fun _ _ => trivial));(case aO => exact q114_);(case aS => exact (below_size q43_));(case aL => have:=LMc12.out;omega);intro v671 w14 ho hb hg hat;rw [← Ny670.out] at ho;have n0_:=Aside0.mk (IsS96.grown q61_ hg (IsS96.own_ne HI660.out HO_6.out (by decide)));have n1_:=Aside0.mk (hb);have n2_:=Aside0.mk (ho);clear HI660;clear HB;clear HO_6;have HI660:=n0_;have HB:=n1_;have HO672:=n2_;clear n0_ n1_ n2_;clear ho hb hg hat))
   go_roundg k1
   case measure => have:=HK1.out;omega
   case rel => exact ⟨(y670),(wrap64 (x7_1 - 1)),(t669),q94_,H',⟨by have:=HK1.out;omega⟩,⟨by (with_reducible repeat (first | apply Kd.R_alloc | apply Kd.R_drewN | apply Kd.R_drew));exact HO672.out⟩,⟨q61_⟩,⟨q43_⟩⟩
  rw [if_neg c10] at H
  have c10b0:decide (0 < x7_1) = false:=decide_eq_false c10
  clear c10
  simp only [Option.some.injEq,Prod.mk.injEq] at H
  obtain ⟨rfl,rfl⟩:=H
  go_wp2
  go_ret2
  exact ⟨_,q75_,q114_,q43_⟩
end Go.Proofs.YtodlnnoekccmmaaGreatDoor.QFnMarks
