/- The machine's side of a law,written by a program of this session for this claim. -/
import Derived.Test.YtoiiaklmjpiejaaDoorAQq
import Derived.Test.YtoiiaklmjpiejaaDoorAQFnArgsx0
import Derived.Test.YtoiiaklmjpiejaaDoorAQFnArgsx1
namespace Go.Proofs.YtoiiaklmjpiejaaDoor.QFnArgs
open Go.Proofs.YtoiiaklmjpiejaaDoor.Qq
open Go.RowKit Go.Proofs.YtoiiaklmjpiejaaDoor.LibX Go.Proofs.YtoiiaklmjpiejaaDoor.LibE Go.Proofs.YtoiiaklmjpiejaaDoor.LibCB Go.Proofs.YtoiiaklmjpiejaaDoor.LibT Go.Proofs.YtoiiaklmjpiejaaDoorW.PrintWords Go.Proofs.YtoiiaklmjpiejaaDoorW.PrintLast Go.Proofs.YtoiiaklmjpiejaaDoorW.PrintMore
attribute [local go_sem] max2_int min2_int max_two min_two max_three min_three max_four min_four   -- for this text's walks alone
set_option maxHeartbeats 8000000
set_option maxRecDepth 100000
set_option linter.unusedVariables false
set_option linter.unusedSimpArgs false
def spec_l1Rd_args.l0:Nat → ByteArray → Int → List Int → Int → Option (ByteArray × Int)
 | 0,_,_,_,_ => none
 | k + 1,x3,x4,x1000,x1001 => if x4 > 0 then (if x3.toList = ([]:List UInt8) then ((some (([(⟨#[97]⟩:ByteArray),(⟨#[91,104,108,43,93]⟩:ByteArray),(⟨#[49,43,50]⟩:ByteArray),(⟨#[120,32,121]⟩:ByteArray),(⟨#[36,49,50]⟩:ByteArray),(⟨#[110,122]⟩:ByteArray)]:List ByteArray):List ByteArray)).bind fun y131 => ((spec_l1Rd_below.f x1000 x1001 6).bind fun bt134 => (if 0 ≤ bt134.1 then (if bt134.1 < (y131.length:Int) then (if x3.size + (rdOf ByteArray.empty y131 bt134.1).size ≤ 9223372036854775807 then (spec_l1Rd_args.l0 k (x3 ++ (rdOf ByteArray.empty y131 bt134.1)) (wrap64 (x4 - 1)) x1000 bt134.2) else (none)) else (none)) else (none)))) else (if x3.size + 1 ≤ 9223372036854775807 then ((some (([(⟨#[97]⟩:ByteArray),(⟨#[91,104,108,43,93]⟩:ByteArray),(⟨#[49,43,50]⟩:ByteArray),(⟨#[120,32,121]⟩:ByteArray),(⟨#[36,49,50]⟩:ByteArray),(⟨#[110,122]⟩:ByteArray)]:List ByteArray):List ByteArray)).bind fun y137 => ((spec_l1Rd_below.f x1000 x1001 6).bind fun bt140 => (if 0 ≤ bt140.1 then (if bt140.1 < (y137.length:Int) then (if (x3 ++ (⟨#[44]⟩:ByteArray)).size + (rdOf ByteArray.empty y137 bt140.1).size ≤ 9223372036854775807 then (spec_l1Rd_args.l0 k ((x3 ++ (⟨#[44]⟩:ByteArray)) ++ (rdOf ByteArray.empty y137 bt140.1)) (wrap64 (x4 - 1)) x1000 bt140.2) else (none)) else (none)) else (none)))) else (none))) else (some (x3,x1001))
def spec_l1Rd_args.f (k:Nat) (s0_0:List Int) (s0_1:Int):Option (ByteArray × Int):=(spec_l1Rd_below.f s0_0 s0_1 3).bind fun bt129 => (spec_l1Rd_args.l0 k (⟨#[]⟩:ByteArray) bt129.1 s0_0 bt129.2)
theorem spec_l1Rd_args.calls (k:Nat) (g:Nat) (s0_0:List Int) (s0_1:Int) (r1:ByteArray) (r2:Int) (w0 w:World) (hI:IsS62 w0 w g s0_0 s0_1) (hB:Below w0.heap.size w0 w) (h:spec_l1Rd_args.f k s0_0 s0_1 = some (r1,r2)) :
  Calls Tryd.prog 29 #[.pointer (some ⟨g,0,none⟩)] w fun e w' => e = .returned (.string r1) ∧ IsS62 w0 w' g s0_0 r2 ∧ Below w0.heap.size w0 w' ∧ KeepBut w w' g none:=by
 have HI0:=Aside0.mk hI
 have HK:=Aside0.mk (KeepBut.refl w g none)
 have HL:=Aside0.mk hB.size
 clear hI
 have HW0:=Aside0.mk hB.size
 have HB:=Aside0.mk hB
 clear hB
 have H:=h;unfold spec_l1Rd_args.f at H
 clear h
 replace H:=Option.bind_eq_some_iff.mp H
 obtain ⟨⟨t129,t130⟩,A20,H⟩:=H
 try dsimp -simprocs -eta only at H
 have A2:=Aside0.mk A20
 clear A20
 have H':=Aside0.mk H
 clear H
 go_enter Tryd.func29,Tryd.ntmps29
 go_wp2_with (first | ((with_reducible refine gate_callee (f:=30) rfl ?_);refine goesL_ (some 6) rfl rfl Tryd.func30 (by kernel_rfl) rfl #[.pointer (some ⟨g,0,none⟩),.int .i64 3] rfl q7_ ?_;(with_reducible refine (spec_l1Rd_below.calls g s0_0 s0_1 3 t129 t130 w0 _ ?side1 ?side2 A2.out).mono ?_);(case side1 => exact q26_);(case side2 => exact q21_);rintro e w3 ⟨rfl,hi,hb,hk⟩;refine ⟨_,rfl,?_⟩;have n0_:=Aside0.mk (KeepBut.trans q5_ hk (.inl rfl));have n1_:=Aside0.mk (hb);have n2_:=Aside0.mk (hi);clear HK;clear HB;clear HI0;have HK:=n0_;have HB:=n1_;have HI0:=n2_;clear n0_ n1_ n2_;(try clear hb);(try clear hk);(try clear hi)))
 go_loopg [3,4] k (fun kq v3 v4 w' => ∃ (x3_1:ByteArray) (x4_1:Int) (x1001_1:Int),v3 = .string x3_1 ∧ v4 = .int .i64 x4_1 ∧ Aside0 (spec_l1Rd_args.l0 kq x3_1 x4_1 s0_0 x1001_1 = some (r1,r2)) ∧ Aside0 (kq ≤ k) ∧ Aside0 (IsS62 w0 w' g s0_0 x1001_1) ∧ Aside0 (KeepBut w w' g none) ∧ Aside0 (Below w0.heap.size w0 w'))
 case atStart => exact ⟨((⟨#[]⟩:ByteArray)),(t129),(t130),q12_,q12_,H',⟨Nat.le_refl _⟩,⟨q4_⟩,⟨q5_⟩,⟨q2_⟩⟩
 clear H'
 try clear c2
 try clear p2
 try clear c3
 obtain ⟨x3_1,x4_1,x1001_1,rfl,rfl,HA,HK1,HI0,HK,HB⟩:=hrel
 cases gk with
 | zero => exact absurd HA.out (by simp [spec_l1Rd_args.l0])
 | succ k1 =>
  have H:=HA.out
  clear HA
  simp only [spec_l1Rd_args.l0] at H
  by_cases c4:x4_1 > 0
  ·rw [if_pos c4] at H
   have c4b0:decide (0 < x4_1) = true:=decide_eq_true c4
   clear c4
   by_cases c5:x3_1.toList = ([]:List UInt8)
   ·rw [if_pos c5] at H
    have c5b0:(x3_1.toList == ([]:List UInt8)) = true:=beq_iff_eq.mpr c5
    have c5b1:(x3_1.toList != ([]:List UInt8)) = false:=bne_eq_false_iff_eq.mpr c5
    clear c5
    obtain ⟨y131,hy131⟩:∃ y_:List ByteArray,y_ = (([(⟨#[97]⟩:ByteArray),(⟨#[91,104,108,43,93]⟩:ByteArray),(⟨#[49,43,50]⟩:ByteArray),(⟨#[120,32,121]⟩:ByteArray),(⟨#[36,49,50]⟩:ByteArray),(⟨#[110,122]⟩:ByteArray)]:List ByteArray)):=⟨_,rfl⟩
    replace H:((spec_l1Rd_below.f s0_0 x1001_1 6).bind fun bt134 => (if 0 ≤ bt134.1 then (if bt134.1 < (y131.length:Int) then (if x3_1.size + (rdOf ByteArray.empty y131 bt134.1).size ≤ 9223372036854775807 then (spec_l1Rd_args.l0 k1 (x3_1 ++ (rdOf ByteArray.empty y131 bt134.1)) (wrap64 (x4_1 - 1)) s0_0 bt134.2) else (none)) else (none)) else (none))) = some (r1,r2):=by first | (rw [hy131];exact H) | exact H
    have Ny131:=Aside0.mk hy131
    clear hy131
    replace H:=Option.bind_eq_some_iff.mp H
    obtain ⟨⟨t134,t135⟩,A60,H⟩:=H
    try dsimp -simprocs -eta only at H
    have A6:=Aside0.mk A60
    clear A60
    by_cases c7:0 ≤ t134
    rotate_left
    ·rw [if_neg c7] at H
     exact absurd H (by simp)
    rw [if_pos c7] at H
    have c7b0:=decide_eq_true c7
    clear c7
    by_cases c8:t134 < (y131.length:Int)
    rotate_left
    ·rw [if_neg c8] at H
     exact absurd H (by simp)
    rw [if_pos c8] at H
    have c8b0:=decide_eq_true c8
    clear c8
    by_cases c9:x3_1.size + (rdOf ByteArray.empty y131 t134).size ≤ 9223372036854775807
    rotate_left
    ·rw [if_neg c9] at H
     exact absurd H (by simp)
    rw [if_pos c9] at H
    have c9b0:=eq_true c9
    have c9b1:=decide_eq_true c9
    try have c9b2:(9223372036854775807 < x3_1.size + (rdOf ByteArray.empty y131 t134).size) = False:=eq_false (Nat.not_lt.2 c9)
    have H':=Aside0.mk H
    clear H
    go_wp2_with (first | ((with_reducible refine gate_dst (N:=16) rfl ?_);refine Kd.R_lit Kd.string _ 9 ?hg (N:=16) ?hd (xs:=([(⟨#[97]⟩:ByteArray),(⟨#[91,104,108,43,93]⟩:ByteArray),(⟨#[49,43,50]⟩:ByteArray),(⟨#[120,32,121]⟩:ByteArray),(⟨#[36,49,50]⟩:ByteArray),(⟨#[110,122]⟩:ByteArray)]:List ByteArray)) (inner:=[.string (⟨#[97]⟩:ByteArray),.string (⟨#[91,104,108,43,93]⟩:ByteArray),.string (⟨#[49,43,50]⟩:ByteArray),.string (⟨#[120,32,121]⟩:ByteArray),.string (⟨#[36,49,50]⟩:ByteArray),.string (⟨#[110,122]⟩:ByteArray)]) (ok:=fun _ => True) (okp:=fun _ => True) ?hr ?hp (fun _ hk => hk) trivial (Below.refl _ _) (Nat.le_refl _) (by simp) ?_;(case hd => rfl);(case hg => rfl);(case hr => exact q27_);(case hp => exact q19_);intro v132 w10 ho11 hb hg_ hnew_;clear hg_ hnew_;(first | rw [← Ny131.out] at ho11 | (simp only [Int.reduceToNat] at ho11;rw [← Ny131.out] at ho11));have n0_:=Aside0.mk (Kd.R_lower ho11 (keep_size (w:=w) (g:=g) (row:=none) q5_));have n1_:=Aside0.mk (IsS62.below q4_ hb);have n2_:=Aside0.mk (KeepBut.trans q5_ (KeepBut.of_below hb g none) (.inl rfl));have n3_:=Aside0.mk (below_step q2_ hb);clear HI0;clear HK;clear HB;have HO133:=n0_;have HI0:=n1_;have HK:=n2_;have HB:=n3_;clear n0_ n1_ n2_ n3_;clear hb ho11) | ((with_reducible refine gate_callee (f:=30) rfl ?_);refine goesL_ (some 18) rfl rfl Tryd.func30 (by kernel_rfl) rfl #[.pointer (some ⟨g,0,none⟩),.int .i64 6] rfl q7_ ?_;(with_reducible refine (spec_l1Rd_below.calls g s0_0 x1001_1 6 t134 t135 w0 _ ?side1 ?side2 A6.out).mono ?_);(case side1 => exact q26_);(case side2 => exact q21_);rintro e w12 ⟨rfl,hi,hb,hk⟩;refine ⟨_,rfl,?_⟩;have n0_:=Aside0.mk (Kd.R_mono (Kd.R_keep (IsS62.apart (show IsS62 w0 _ g s0_0 x1001_1 from by repeat (first | (with_reducible first | exact HI0.out | apply IsS62.alloc | apply IsS62.drewN | apply IsS62.drew | apply IsS62.set_1) | exact HI0.out)) (by (with_reducible repeat (first | apply Kd.R_alloc | apply Kd.R_drewN | apply Kd.R_drew));exact HO133.out) (by decide)) hk (fun _ h => h.2)) (fun _ h => h.1));have n1_:=Aside0.mk (KeepBut.trans q5_ hk (.inl rfl));have n2_:=Aside0.mk (hb);have n3_:=Aside0.mk (hi);clear HO133;clear HK;clear HB;clear HI0;have HO133:=n0_;have HK:=n1_;have HB:=n2_;have HI0:=n3_;clear n0_ n1_ n2_ n3_;(try clear hb);(try clear hk);(try clear hi);obtain ⟨Ao13,co13,eo13⟩:=Kd.R_slice HO133.out;subst eo13;have p136:0 ≤ (t134:Int):=of_decide_eq_true q18_;have q136:t134 < (y131.length:Int):=of_decide_eq_true q18_;obtain ⟨ad136,e136,hx136_0⟩:=Kd.at_string (Kd.R_reads' HO133.out).2.2 t134 p136 q136;cases e136;replace p136:=eq_true p136;replace q136:=eq_true q136))
    go_roundg k1
    case measure => have:=HK1.out;omega
    case rel => exact ⟨(x3_1 ++ (rdOf ByteArray.empty y131 t134)),(wrap64 (x4_1 - 1)),(t135),q12_,q12_,H',⟨by have:=HK1.out;omega⟩,⟨q4_⟩,⟨q5_⟩,⟨q2_⟩⟩
   rw [if_neg c5] at H
   have c5b0:(x3_1.toList == ([]:List UInt8)) = false:=beq_eq_false_iff_ne.mpr c5
   have c5b1:(x3_1.toList != ([]:List UInt8)) = true:=bne_iff_ne.mpr c5
   by_cases c14:x3_1.size + 1 ≤ 9223372036854775807
   rotate_left
   ·rw [if_neg c14] at H
    exact absurd H (by simp)
   rw [if_pos c14] at H
   have c14b0:=eq_true c14
   have c14b1:=decide_eq_true c14
   try have c14b2:(9223372036854775807 < x3_1.size + 1) = False:=eq_false (Nat.not_lt.2 c14)
   obtain ⟨y137,hy137⟩:∃ y_:List ByteArray,y_ = (([(⟨#[97]⟩:ByteArray),(⟨#[91,104,108,43,93]⟩:ByteArray),(⟨#[49,43,50]⟩:ByteArray),(⟨#[120,32,121]⟩:ByteArray),(⟨#[36,49,50]⟩:ByteArray),(⟨#[110,122]⟩:ByteArray)]:List ByteArray)):=⟨_,rfl⟩
   replace H:((spec_l1Rd_below.f s0_0 x1001_1 6).bind fun bt140 => (if 0 ≤ bt140.1 then (if bt140.1 < (y137.length:Int) then (if (x3_1 ++ (⟨#[44]⟩:ByteArray)).size + (rdOf ByteArray.empty y137 bt140.1).size ≤ 9223372036854775807 then (spec_l1Rd_args.l0 k1 ((x3_1 ++ (⟨#[44]⟩:ByteArray)) ++ (rdOf ByteArray.empty y137 bt140.1)) (wrap64 (x4_1 - 1)) s0_0 bt140.2) else (none)) else (none)) else (none))) = some (r1,r2):=by first | (rw [hy137];exact H) | exact H
   have Ny137:=Aside0.mk hy137
   clear hy137
   replace H:=Option.bind_eq_some_iff.mp H
   obtain ⟨⟨t140,t141⟩,A150,H⟩:=H
   try dsimp -simprocs -eta only at H
   have A15:=Aside0.mk A150
   clear A150
   by_cases c16:0 ≤ t140
   rotate_left
   ·rw [if_neg c16] at H
    exact absurd H (by simp)
   rw [if_pos c16] at H
   have c16b0:=decide_eq_true c16
   clear c16
   by_cases c17:t140 < (y137.length:Int)
   rotate_left
   ·rw [if_neg c17] at H
    exact absurd H (by simp)
   rw [if_pos c17] at H
   have c17b0:=decide_eq_true c17
   clear c17
   by_cases c18:(x3_1 ++ (⟨#[44]⟩:ByteArray)).size + (rdOf ByteArray.empty y137 t140).size ≤ 9223372036854775807
   rotate_left
   ·rw [if_neg c18] at H
    exact absurd H (by simp)
   rw [if_pos c18] at H
   have c18b0:=eq_true c18
   (try (have c18b0e:=c18b0;simp only [ByteArray.size_append,ByteArray.size_extract,Nat.min_self,Nat.sub_zero,show (⟨#[44]⟩:ByteArray).size = 1 from rfl] at c18b0e))
   have c18b1:=decide_eq_true c18
   (try (have c18b1e:=c18b1;simp only [ByteArray.size_append,ByteArray.size_extract,Nat.min_self,Nat.sub_zero,show (⟨#[44]⟩:ByteArray).size = 1 from rfl] at c18b1e))
   try have c18b2:(9223372036854775807 < (x3_1 ++ (⟨#[44]⟩:ByteArray)).size + (rdOf ByteArray.empty y137 t140).size) = False:=eq_false (Nat.not_lt.2 c18)
   (try (have c18b2e:=c18b2;simp only [ByteArray.size_append,ByteArray.size_extract,Nat.min_self,Nat.sub_zero,show (⟨#[44]⟩:ByteArray).size = 1 from rfl] at c18b2e))
   have H':=Aside0.mk H
   clear H
   go_wp2_with (first | ((with_reducible refine gate_dst (N:=16) rfl ?_);refine Kd.R_lit Kd.string _ 9 ?hg (N:=16) ?hd (xs:=([(⟨#[97]⟩:ByteArray),(⟨#[91,104,108,43,93]⟩:ByteArray),(⟨#[49,43,50]⟩:ByteArray),(⟨#[120,32,121]⟩:ByteArray),(⟨#[36,49,50]⟩:ByteArray),(⟨#[110,122]⟩:ByteArray)]:List ByteArray)) (inner:=[.string (⟨#[97]⟩:ByteArray),.string (⟨#[91,104,108,43,93]⟩:ByteArray),.string (⟨#[49,43,50]⟩:ByteArray),.string (⟨#[120,32,121]⟩:ByteArray),.string (⟨#[36,49,50]⟩:ByteArray),.string (⟨#[110,122]⟩:ByteArray)]) (ok:=fun _ => True) (okp:=fun _ => True) ?hr ?hp (fun _ hk => hk) trivial (Below.refl _ _) (Nat.le_refl _) (by simp) ?_;(case hd => rfl);(case hg => rfl);(case hr => exact q27_);(case hp => exact q19_);intro v138 w19 ho20 hb hg_ hnew_;clear hg_ hnew_;(first | rw [← Ny137.out] at ho20 | (simp only [Int.reduceToNat] at ho20;rw [← Ny137.out] at ho20));have n0_:=Aside0.mk (Kd.R_lower ho20 (keep_size (w:=w) (g:=g) (row:=none) q5_));have n1_:=Aside0.mk (IsS62.below q4_ hb);have n2_:=Aside0.mk (KeepBut.trans q5_ (KeepBut.of_below hb g none) (.inl rfl));have n3_:=Aside0.mk (below_step q2_ hb);clear HI0;clear HK;clear HB;have HO139:=n0_;have HI0:=n1_;have HK:=n2_;have HB:=n3_;clear n0_ n1_ n2_ n3_;clear hb ho20) | ((with_reducible refine gate_callee (f:=30) rfl ?_);refine goesL_ (some 18) rfl rfl Tryd.func30 (by kernel_rfl) rfl #[.pointer (some ⟨g,0,none⟩),.int .i64 6] rfl q7_ ?_;(with_reducible refine (spec_l1Rd_below.calls g s0_0 x1001_1 6 t140 t141 w0 _ ?side1 ?side2 A15.out).mono ?_);(case side1 => exact q26_);(case side2 => exact q21_);rintro e w21 ⟨rfl,hi,hb,hk⟩;refine ⟨_,rfl,?_⟩;have n0_:=Aside0.mk (Kd.R_mono (Kd.R_keep (IsS62.apart (show IsS62 w0 _ g s0_0 x1001_1 from by repeat (first | (with_reducible first | exact HI0.out | apply IsS62.alloc | apply IsS62.drewN | apply IsS62.drew | apply IsS62.set_1) | exact HI0.out)) (by (with_reducible repeat (first | apply Kd.R_alloc | apply Kd.R_drewN | apply Kd.R_drew));exact HO139.out) (by decide)) hk (fun _ h => h.2)) (fun _ h => h.1));have n1_:=Aside0.mk (KeepBut.trans q5_ hk (.inl rfl));have n2_:=Aside0.mk (hb);have n3_:=Aside0.mk (hi);clear HO139;clear HK;clear HB;clear HI0;have HO139:=n0_;have HK:=n1_;have HB:=n2_;have HI0:=n3_;clear n0_ n1_ n2_ n3_;(try clear hb);(try clear hk);(try clear hi);obtain ⟨Ao22,co22,eo22⟩:=Kd.R_slice HO139.out;subst eo22;have p142:0 ≤ (t140:Int):=of_decide_eq_true q18_;have q142:t140 < (y137.length:Int):=of_decide_eq_true q18_;obtain ⟨ad142,e142,hx142_0⟩:=Kd.at_string (Kd.R_reads' HO139.out).2.2 t140 p142 q142;cases e142;replace p142:=eq_true p142;replace q142:=eq_true q142))
   go_roundg k1
   case measure => have:=HK1.out;omega
   case rel => exact ⟨((x3_1 ++ (⟨#[44]⟩:ByteArray)) ++ (rdOf ByteArray.empty y137 t140)),(wrap64 (x4_1 - 1)),(t141),q12_,q12_,H',⟨by have:=HK1.out;omega⟩,⟨q4_⟩,⟨q5_⟩,⟨q2_⟩⟩
  rw [if_neg c4] at H
  have c4b0:decide (0 < x4_1) = false:=decide_eq_false c4
  clear c4
  simp only [Option.some.injEq,Prod.mk.injEq] at H
  obtain ⟨rfl,rfl⟩:=H
  go_wp2
  go_ret
  exact ⟨q10_,q4_,q2_,q5_⟩
def spec_DrawArgsOf.f (k:Nat) (l0:List Int):Option (ByteArray):=(spec_l1Open.f l0).bind fun bt143 => ((spec_l1Rd_once.f bt143.1 bt143.2 6).bind fun bt146 => (if bt146.1 = true then ((spec_l1Rd_args.f k bt143.1 bt146.2).bind fun bt148 => ((spec_l1Rd_hurt.f bt143.1 bt148.2 bt148.1).bind fun bt150 => (some bt150.1))) else ((spec_l1Rd_args.f k bt143.1 bt146.2).bind fun bt152 => ((some (([(⟨#[]⟩:ByteArray),(⟨#[44]⟩:ByteArray),(⟨#[44,44]⟩:ByteArray)]:List ByteArray):List ByteArray)).bind fun y154 => ((spec_l1Rd_below.f bt143.1 bt152.2 3).bind fun bt157 => (if 0 ≤ bt157.1 then (if bt157.1 < (y154.length:Int) then (if bt152.1.size + (rdOf ByteArray.empty y154 bt157.1).size ≤ 9223372036854775807 then (some (bt152.1 ++ (rdOf ByteArray.empty y154 bt157.1))) else (none)) else (none)) else (none)))))))
theorem spec_DrawArgsOf.calls (k:Nat) (A0:Option Addr) (c0:Nat) (l0:List Int) (r:ByteArray) (w:World) (hr0:Kd.C (Kd.int .u8) w A0 l0.length l0) (hc0:l0.length ≤ c0) (h:spec_DrawArgsOf.f k l0 = some r) :
  Calls Tryd.prog 7 #[.slice A0 l0.length c0] w fun e w' => e = .returned (.string r) ∧ Below w.heap.size w w':=by
 have HR0:=Aside0.mk hr0
 have HC0:=Aside0.mk hc0
 clear hr0 hc0
 have HB:=Aside0.mk (Below.refl w.heap.size w)
 have H:=h;unfold spec_DrawArgsOf.f at H
 clear h
 replace H:=Option.bind_eq_some_iff.mp H
 obtain ⟨⟨t143,t144⟩,A20,H⟩:=H
 try dsimp -simprocs -eta only at H
 have A2:=Aside0.mk A20
 clear A20
 replace H:=Option.bind_eq_some_iff.mp H
 obtain ⟨⟨t146,t147⟩,A30,H⟩:=H
 try dsimp -simprocs -eta only at H
 have A3:=Aside0.mk A30
 clear A30
 by_cases c4:t146 = true
 ·subst c4
  rewrite [if_pos rfl] at H
  replace H:=Option.bind_eq_some_iff.mp H
  obtain ⟨⟨t148,t149⟩,A50,H⟩:=H
  try dsimp -simprocs -eta only at H
  have A5:=Aside0.mk A50
  clear A50
  replace H:=Option.bind_eq_some_iff.mp H
  obtain ⟨⟨t150,t151⟩,A60,H⟩:=H
  replace H:(some t150) = some r:=H
  have A6:=Aside0.mk A60
  clear A60
  obtain rfl:=Option.some.inj H
  go_enter Tryd.func7,Tryd.ntmps7
  go_wp2_with (first | ((with_reducible refine gate_callee (f:=26) rfl ?_);refine goesL_ (some 5) rfl rfl Tryd.func26 (by kernel_rfl) rfl #[.slice A0 l0.length c0] rfl q7_ ?_;(with_reducible refine (spec_l1Open.calls _ _ l0 t143 t144 w _ ?side1 ?side2 ?side3 A2.out).mono ?_);(case side1 => repeat (first | (with_reducible first | exact HB.out | apply below_alloc | apply pw_below_drewN | apply below_drew1) | exact HB.out));(case side2 => exact HR0.out);(case side3 => exact HC0.out);rintro e w7 ⟨g145,rfl,hi,hb,hb2⟩;refine ⟨_,rfl,?_⟩;have n0_:=Aside0.mk (hb);have n1_:=Aside0.mk (hi);clear HB;have HB:=n0_;have HI145:=n1_;clear n0_ n1_;(try clear hb);(try clear hb2);(try clear hi)) | ((with_reducible refine gate_callee (f:=27) rfl ?_);refine goesL_ (some 7) rfl rfl Tryd.func27 (by kernel_rfl) rfl #[.pointer (some ⟨g145,0,none⟩),.int .i64 6] rfl q7_ ?_;(with_reducible refine (spec_l1Rd_once.calls g145 t143 t144 6 true t147 w _ ?side1 ?side2 A3.out).mono ?_);(case side1 => exact q24_);(case side2 => exact q20_);rintro e w8 ⟨rfl,hi,hb,hk⟩;refine ⟨_,rfl,?_⟩;have n0_:=Aside0.mk (hb);have n1_:=Aside0.mk (hi);clear HB;clear HI145;have HB:=n0_;have HI145:=n1_;clear n0_ n1_;(try clear hb);(try clear hk);(try clear hi)) | ((with_reducible refine gate_callee (f:=29) rfl ?_);refine goesL_ (some 10) rfl rfl Tryd.func29 (by kernel_rfl) rfl #[.pointer (some ⟨g145,0,none⟩)] rfl q7_ ?_;(with_reducible refine (spec_l1Rd_args.calls k g145 t143 t147 t148 t149 w _ ?side1 ?side2 A5.out).mono ?_);(case side1 => exact q24_);(case side2 => exact q20_);rintro e w9 ⟨rfl,hi,hb,hk⟩;refine ⟨_,rfl,?_⟩;have n0_:=Aside0.mk (hb);have n1_:=Aside0.mk (hi);clear HB;clear HI145;have HB:=n0_;have HI145:=n1_;clear n0_ n1_;(try clear hb);(try clear hk);(try clear hi)) | ((with_reducible refine gate_callee (f:=28) rfl ?_);refine goesL_ (some 11) rfl rfl Tryd.func28 (by kernel_rfl) rfl #[.pointer (some ⟨g145,0,none⟩),.string t148] rfl q7_ ?_;(with_reducible refine (spec_l1Rd_hurt.calls g145 t143 t149 t148 t150 t151 w _ ?side1 ?side2 A6.out).mono ?_);(case side1 => exact q24_);(case side2 => exact q20_);rintro e w10 ⟨rfl,hi,hb,hk⟩;refine ⟨_,rfl,?_⟩;have n0_:=Aside0.mk (hb);have n1_:=Aside0.mk (hi);clear HB;clear HI145;have HB:=n0_;have HI145:=n1_;clear n0_ n1_;(try clear hb);(try clear hk);(try clear hi)))
  go_ret
  exact ⟨q10_,q1_⟩
 replace c4:=Bool.eq_false_iff.mpr c4
 subst c4
 rewrite [if_neg (show ¬ (false = true) by decide)] at H
 replace H:=Option.bind_eq_some_iff.mp H
 obtain ⟨⟨t152,t153⟩,A110,H⟩:=H
 try dsimp -simprocs -eta only at H
 have A11:=Aside0.mk A110
 clear A110
 obtain ⟨y154,hy154⟩:∃ y_:List ByteArray,y_ = (([(⟨#[]⟩:ByteArray),(⟨#[44]⟩:ByteArray),(⟨#[44,44]⟩:ByteArray)]:List ByteArray)):=⟨_,rfl⟩
 replace H:((spec_l1Rd_below.f t143 t153 3).bind fun bt157 => (if 0 ≤ bt157.1 then (if bt157.1 < (y154.length:Int) then (if t152.size + (rdOf ByteArray.empty y154 bt157.1).size ≤ 9223372036854775807 then (some (t152 ++ (rdOf ByteArray.empty y154 bt157.1))) else (none)) else (none)) else (none))) = some r:=by first | (rw [hy154];exact H) | exact H
 have Ny154:=Aside0.mk hy154
 clear hy154
 replace H:=Option.bind_eq_some_iff.mp H
 obtain ⟨⟨t157,t158⟩,A120,H⟩:=H
 try dsimp -simprocs -eta only at H
 have A12:=Aside0.mk A120
 clear A120
 by_cases c13:0 ≤ t157
 rotate_left
 ·rw [if_neg c13] at H
  exact absurd H (by simp)
 rw [if_pos c13] at H
 have c13b0:=decide_eq_true c13
 clear c13
 by_cases c14:t157 < (y154.length:Int)
 rotate_left
 ·rw [if_neg c14] at H
  exact absurd H (by simp)
 rw [if_pos c14] at H
 have c14b0:=decide_eq_true c14
 clear c14
 by_cases c15:t152.size + (rdOf ByteArray.empty y154 t157).size ≤ 9223372036854775807
 rotate_left
 ·rw [if_neg c15] at H
  exact absurd H (by simp)
 rw [if_pos c15] at H
 have c15b0:=eq_true c15
 have c15b1:=decide_eq_true c15
 try have c15b2:(9223372036854775807 < t152.size + (rdOf ByteArray.empty y154 t157).size) = False:=eq_false (Nat.not_lt.2 c15)
 obtain rfl:=Option.some.inj H
 go_enter Tryd.func7,Tryd.ntmps7
 go_wp2_with (first | ((with_reducible refine gate_callee (f:=26) rfl ?_);refine goesL_ (some 5) rfl rfl Tryd.func26 (by kernel_rfl) rfl #[.slice A0 l0.length c0] rfl q7_ ?_;(with_reducible refine (spec_l1Open.calls _ _ l0 t143 t144 w _ ?side1 ?side2 ?side3 A2.out).mono ?_);(case side1 => repeat (first | (with_reducible first | exact HB.out | apply below_alloc | apply pw_below_drewN | apply below_drew1) | exact HB.out));(case side2 => exact HR0.out);(case side3 => exact HC0.out);rintro e w16 ⟨g145,rfl,hi,hb,hb2⟩;refine ⟨_,rfl,?_⟩;have n0_:=Aside0.mk (hb);have n1_:=Aside0.mk (hi);clear HB;have HB:=n0_;have HI145:=n1_;clear n0_ n1_;(try clear hb);(try clear hb2);(try clear hi)) | ((with_reducible refine gate_callee (f:=27) rfl ?_);refine goesL_ (some 7) rfl rfl Tryd.func27 (by kernel_rfl) rfl #[.pointer (some ⟨g145,0,none⟩),.int .i64 6] rfl q7_ ?_;(with_reducible refine (spec_l1Rd_once.calls g145 t143 t144 6 false t147 w _ ?side1 ?side2 A3.out).mono ?_);(case side1 => exact q24_);(case side2 => exact q20_);rintro e w17 ⟨rfl,hi,hb,hk⟩;refine ⟨_,rfl,?_⟩;have n0_:=Aside0.mk (hb);have n1_:=Aside0.mk (hi);clear HB;clear HI145;have HB:=n0_;have HI145:=n1_;clear n0_ n1_;(try clear hb);(try clear hk);(try clear hi)) | ((with_reducible refine gate_callee (f:=29) rfl ?_);refine goesL_ (some 13) rfl rfl Tryd.func29 (by kernel_rfl) rfl #[.pointer (some ⟨g145,0,none⟩)] rfl q7_ ?_;(with_reducible refine (spec_l1Rd_args.calls k g145 t143 t147 t152 t153 w _ ?side1 ?side2 A11.out).mono ?_);(case side1 => exact q24_);(case side2 => exact q20_);rintro e w18 ⟨rfl,hi,hb,hk⟩;refine ⟨_,rfl,?_⟩;have n0_:=Aside0.mk (hb);have n1_:=Aside0.mk (hi);clear HB;clear HI145;have HB:=n0_;have HI145:=n1_;clear n0_ n1_;(try clear hb);(try clear hk);(try clear hi)) | ((with_reducible refine gate_dst (N:=14) rfl ?_);refine Kd.R_lit Kd.string _ 9 ?hg (N:=14) ?hd (xs:=([(⟨#[]⟩:ByteArray),(⟨#[44]⟩:ByteArray),(⟨#[44,44]⟩:ByteArray)]:List ByteArray)) (inner:=[.string (⟨#[]⟩:ByteArray),.string (⟨#[44]⟩:ByteArray),.string (⟨#[44,44]⟩:ByteArray)]) (ok:=fun _ => True) (okp:=fun _ => True) ?hr ?hp (fun _ hk => hk) trivial (Below.refl _ _) (Nat.le_refl _) (by simp) ?_;(case hd => rfl);(case hg => rfl);(case hr => exact q27_);(case hp => exact (Reps.one (show Kd.M Kd.string _ _ _ (⟨#[]⟩:ByteArray) [.string (⟨#[]⟩:ByteArray)] from rfl) (Reps.one (show Kd.M Kd.string _ _ _ (⟨#[44]⟩:ByteArray) [.string (⟨#[44]⟩:ByteArray)] from rfl) (Reps.one (show Kd.M Kd.string _ _ _ (⟨#[44,44]⟩:ByteArray) [.string (⟨#[44,44]⟩:ByteArray)] from rfl) (Reps.none _ _)))));intro v155 w19 ho20 hb hg_ hnew_;clear hg_ hnew_;(first | rw [← Ny154.out] at ho20 | (simp only [Int.reduceToNat] at ho20;rw [← Ny154.out] at ho20));have n0_:=Aside0.mk (Kd.R_lower ho20 (below_size q1_));have n1_:=Aside0.mk (IsS62.below (by repeat (first | (with_reducible first | exact HI145.out | apply IsS62.alloc | apply IsS62.drewN | apply IsS62.drew | apply IsS62.set_1) | exact HI145.out)) hb);have n2_:=Aside0.mk (below_step q1_ hb);clear HI145;clear HB;have HO156:=n0_;have HI145:=n1_;have HB:=n2_;clear n0_ n1_ n2_;clear hb ho20) | ((with_reducible refine gate_callee (f:=30) rfl ?_);refine goesL_ (some 16) rfl rfl Tryd.func30 (by kernel_rfl) rfl #[.pointer (some ⟨g145,0,none⟩),.int .i64 3] rfl q7_ ?_;(with_reducible refine (spec_l1Rd_below.calls g145 t143 t153 3 t157 t158 w _ ?side1 ?side2 A12.out).mono ?_);(case side1 => exact q24_);(case side2 => exact q20_);rintro e w21 ⟨rfl,hi,hb,hk⟩;refine ⟨_,rfl,?_⟩;have n0_:=Aside0.mk (Kd.R_mono (Kd.R_keep (IsS62.apart (show IsS62 w _ g145 t143 t153 from by repeat (first | (with_reducible first | exact HI145.out | apply IsS62.alloc | apply IsS62.drewN | apply IsS62.drew | apply IsS62.set_1) | exact HI145.out)) (by (with_reducible repeat (first | apply Kd.R_alloc | apply Kd.R_drewN | apply Kd.R_drew));exact HO156.out) (by decide)) hk (fun _ h => h.2)) (fun _ h => h.1));have n1_:=Aside0.mk (hb);have n2_:=Aside0.mk (hi);clear HO156;clear HB;clear HI145;have HO156:=n0_;have HB:=n1_;have HI145:=n2_;clear n0_ n1_ n2_;(try clear hb);(try clear hk);(try clear hi);obtain ⟨Ao22,co22,eo22⟩:=Kd.R_slice HO156.out;subst eo22;have p159:0 ≤ (t157:Int):=of_decide_eq_true q18_;have q159:t157 < (y154.length:Int):=of_decide_eq_true q18_;obtain ⟨ad159,e159,hx159_0⟩:=Kd.at_string (Kd.R_reads' HO156.out).2.2 t157 p159 q159;cases e159;replace p159:=eq_true p159;replace q159:=eq_true q159))
 go_ret
 exact ⟨q10_,q1_⟩
mutual
def impl_areArgs.l0:Nat → ByteArray → Int → Int → Option (Bool)
 | 0,_,_,_ => none
 | k + 1,x0,x5,x6 => if x6 < x5 then (if 0 ≤ x6 then (if x6 < (x0.size:Int) then (if (bt x0 x6) < 32 then (impl_areArgs.j1 k x0 x5 x6 true) else (if (bt x0 x6) > 126 then (impl_areArgs.j1 k x0 x5 x6 true) else (impl_areArgs.j1 k x0 x5 x6 ((bt x0 x6) == 59)))) else (none)) else (none)) else ((impl_tidied.f x0).bind fun t160 => (some (t160.toList == x0.toList)))
def impl_areArgs.j1:Nat → ByteArray → Int → Int → Bool → Option (Bool)
 | 0,_,_,_,_ => none
 | k + 1,x0,x5,x6,x24 => if x24 = true then (some false) else (impl_areArgs.l0 k x0 x5 (wrap64 (x6 + 1)))
end
def impl_areArgs.f (k:Nat) (a0:ByteArray):Option (Bool):=impl_areArgs.l0 k a0 (a0.size:Int) 0
theorem impl_areArgs.calls (k:Nat) (a0:ByteArray) (r:Bool) (w:World) (h:impl_areArgs.f k a0 = some r) (hG:Go.Proofs.YtoiiaklmjpiejaaDoor.LibW.GL w:=by first | exact hG | exact hG.below q0_ | exact hG.drewN _) :
  Calls Tryd.prog 31 #[.string a0] w fun e w' => e = .returned (.bool r) ∧ Below w.heap.size w w':=by
 have HB:=Aside0.mk (Below.refl w.heap.size w)
 have H:(impl_areArgs.l0 k a0 (a0.size:Int) 0) = some r:=h
 clear h
 have H':=Aside0.mk H
 clear H
 go_enter Tryd.func31,Tryd.ntmps31
 go_wp2
 go_loopg [6] k (fun kq v6 w' => ∃ (x6_1:Int),v6 = .int .i64 x6_1 ∧ Aside0 (impl_areArgs.l0 kq a0 (a0.size:Int) x6_1 = some r) ∧ Aside0 (kq ≤ k) ∧ Aside0 (Below w.heap.size w w'))
 case atStart => exact ⟨(0),q12_,H',⟨Nat.le_refl _⟩,⟨q9_⟩⟩
 clear H'
 obtain ⟨x6_1,rfl,HA,HK1,HB⟩:=hrel
 cases gk with
 | zero => exact absurd HA.out (by simp [impl_areArgs.l0])
 | succ k1 =>
  have H:=HA.out
  clear HA
  simp only [impl_areArgs.l0] at H
  by_cases c2:x6_1 < (a0.size:Int)
  ·rw [if_pos c2] at H
   have c2b0:=decide_eq_true c2
   clear c2
   have HC3:=Aside0.mk H
   clear H
   go_upto_region 4 with (fail)
   go_cut [24] (fun v24 wc => ∃ (kq:Nat) (x24_2:Bool),v24 = .bool x24_2 ∧ Aside0 (impl_areArgs.j1 kq a0 (a0.size:Int) x6_1 x24_2 = some r) ∧ Aside0 (kq ≤ k1) ∧ Aside0 (Below w.heap.size w wc))
   case first =>
    have H:=HC3.out
    clear HC3
    by_cases c4:0 ≤ x6_1
    rotate_left
    ·rw [if_neg c4] at H
     exact absurd H (by simp)
    rw [if_pos c4] at H
    have c4b0:=decide_eq_true c4
    clear c4
    (first | rw [c4b0] | (simp only [i64_w,i32_w];rw [c4b0]) | skip)
    by_cases c5:x6_1 < (a0.size:Int)
    rotate_left
    ·rw [if_neg c5] at H
     exact absurd H (by simp)
    rw [if_pos c5] at H
    have c5b0:=decide_eq_true c5
    clear c5
    by_cases c7:(bt a0 x6_1) < 32
    ·rw [if_pos c7] at H
     have c7b0:=decide_eq_true c7
     clear c7
     have H':=Aside0.mk H
     clear H
     have p6:0 ≤ (x6_1:Int):=of_decide_eq_true q18_
     have q6:x6_1 < (a0.size:Int):=of_decide_eq_true q18_
     have hx6:=bt_at a0 x6_1
     replace p6:=eq_true p6
     replace q6:=eq_true q6
     go_wp2
     go_meet
     case rel => exact ⟨_,(true),q12_,H',⟨q17_⟩,⟨q9_⟩⟩
    rw [if_neg c7] at H
    have c7b0:=decide_eq_false c7
    clear c7
    by_cases c9:(bt a0 x6_1) > 126
    ·rw [if_pos c9] at H
     have c9b0:decide (126 < (bt a0 x6_1)) = true:=decide_eq_true c9
     clear c9
     have H':=Aside0.mk H
     clear H
     have p6:0 ≤ (x6_1:Int):=of_decide_eq_true q18_
     have q6:x6_1 < (a0.size:Int):=of_decide_eq_true q18_
     have hx6:=bt_at a0 x6_1
     replace p6:=eq_true p6
     replace q6:=eq_true q6
     have p8:0 ≤ (x6_1:Int):=of_decide_eq_true q18_
     have q8:x6_1 < (a0.size:Int):=of_decide_eq_true q18_
     have hx8:=bt_at a0 x6_1
     replace p8:=eq_true p8
     replace q8:=eq_true q8
     go_wp2
     go_meet
     case rel => exact ⟨_,(true),q12_,H',⟨q17_⟩,⟨q9_⟩⟩
    rw [if_neg c9] at H
    have c9b0:decide (126 < (bt a0 x6_1)) = false:=decide_eq_false c9
    clear c9
    have H':=Aside0.mk H
    clear H
    have p6:0 ≤ (x6_1:Int):=of_decide_eq_true q18_
    have q6:x6_1 < (a0.size:Int):=of_decide_eq_true q18_
    have hx6:=bt_at a0 x6_1
    replace p6:=eq_true p6
    replace q6:=eq_true q6
    have p8:0 ≤ (x6_1:Int):=of_decide_eq_true q18_
    have q8:x6_1 < (a0.size:Int):=of_decide_eq_true q18_
    have hx8:=bt_at a0 x6_1
    replace p8:=eq_true p8
    replace q8:=eq_true q8
    have p10:0 ≤ (x6_1:Int):=of_decide_eq_true q18_
    have q10:x6_1 < (a0.size:Int):=of_decide_eq_true q18_
    have hx10:=bt_at a0 x6_1
    replace p10:=eq_true p10
    replace q10:=eq_true q10
    go_wp2
    go_meet
    case rel => exact ⟨_,(((bt a0 x6_1) == 59)),q12_,H',⟨q17_⟩,⟨q9_⟩⟩
   clear HC3
   try clear p1
   try clear q1
   try clear hx1
   try clear c2
   try clear c2b0
   try clear p2
   try clear c3
   try clear c4
   try clear c4b0
   try clear c5
   try clear c5b0
   try clear p6 p6
   try clear q6 q6
   try clear hx6
   try clear c7
   try clear c7b0
   try clear p8 p8
   try clear q8 q8
   try clear hx8
   try clear c9
   try clear c9b0
   try clear p10 p10
   try clear q10 q10
   try clear hx10
   obtain ⟨kq,x24_2,rfl,HA,HJ2,HB⟩:=hcut
   cases kq with
   | zero => exact absurd HA.out (by simp [impl_areArgs.j1])
   | succ kj2 =>
    have H:=HA.out
    clear HA
    simp only [impl_areArgs.j1] at H
    by_cases c11:x24_2 = true
    ·subst c11
     rewrite [if_pos rfl] at H
     obtain rfl:=Option.some.inj H
     go_wp2
     go_ret
     exact ⟨q10_,q9_⟩
    replace c11:=Bool.eq_false_iff.mpr c11
    subst c11
    rewrite [if_neg (show ¬ (false = true) by decide)] at H
    have H':=Aside0.mk H
    clear H
    go_wp2
    go_roundg kj2
    case measure => have:=HK1.out;have:=HJ2.out;omega
    case rel => exact ⟨(wrap64 (x6_1 + 1)),q12_,H',⟨by have:=HK1.out;have:=HJ2.out;omega⟩,⟨q9_⟩⟩
  rw [if_neg c2] at H
  have c2b0:=decide_eq_false c2
  clear c2
  replace H:=Option.bind_eq_some_iff.mp H
  obtain ⟨t160,A120,H⟩:=H
  have A12:=Aside0.mk A120
  clear A120
  obtain rfl:=Option.some.inj H
  go_wp2_with (first | ((with_reducible refine gate_callee (f:=44) rfl ?_);refine goesL_ (some 27) rfl rfl Tryd.func44 (by kernel_rfl) rfl #[.string a0] rfl q7_ ?_;(with_reducible refine (impl_tidied.calls a0 t160 _ A12.out).mono ?_);rintro e w13 ⟨rfl,hb⟩;refine ⟨_,rfl,?_⟩;replace HB:=Aside0.mk (below_step q9_ hb);(try clear hb)))
  go_ret
  exact ⟨q10_,q9_⟩
def impl_ArgsOf.f (k:Nat) (a0:ByteArray):Option (List ByteArray):=if a0.toList = ([]:List UInt8) then (some ([]:List ByteArray)) else ((impl_areArgs.f k a0).bind fun t161 => (if t161 = true then ((strings_Split.f a0 (⟨#[44]⟩:ByteArray)).bind fun t162 => (some t162)) else (some ([]:List ByteArray))))
theorem impl_ArgsOf.calls (k:Nat) (a0:ByteArray) (r:List ByteArray) (w:World) (h:impl_ArgsOf.f k a0 = some r) (hG:Go.Proofs.YtoiiaklmjpiejaaDoor.LibW.GL w:=by first | exact hG | exact hG.below q0_ | exact hG.drewN _) :
  Calls Tryd.prog 8 #[.string a0] w fun e w' => ∃ v0_:Value,e = .returned (v0_) ∧ Kd.R Kd.string 9 w' w.heap.size (fun _ => True) v0_ r ∧ Below w.heap.size w w':=by
 have HB:=Aside0.mk (Below.refl w.heap.size w)
 have H:=h;unfold impl_ArgsOf.f at H
 clear h
 by_cases c2:a0.toList = ([]:List UInt8)
 ·rw [if_pos c2] at H
  have c2b0:(a0.toList == ([]:List UInt8)) = true:=beq_iff_eq.mpr c2
  have c2b1:(a0.toList != ([]:List UInt8)) = false:=bne_eq_false_iff_eq.mpr c2
  clear c2
  obtain rfl:=Option.some.inj H
  go_enter Tryd.func8,Tryd.ntmps8
  go_wp2
  go_ret
  exact ⟨_,q10_,q6_,q9_⟩
 rw [if_neg c2] at H
 have c2b0:(a0.toList == ([]:List UInt8)) = false:=beq_eq_false_iff_ne.mpr c2
 have c2b1:(a0.toList != ([]:List UInt8)) = true:=bne_iff_ne.mpr c2
 replace H:=Option.bind_eq_some_iff.mp H
 obtain ⟨t161,A30,H⟩:=H
 have A3:=Aside0.mk A30
 clear A30
 by_cases c4:t161 = true
 ·subst c4
  rewrite [if_pos rfl] at H
  replace H:=Option.bind_eq_some_iff.mp H
  obtain ⟨t162,A50,H⟩:=H
  have A5:=Aside0.mk A50
  clear A50
  obtain rfl:=Option.some.inj H
  go_enter Tryd.func8,Tryd.ntmps8
  go_wp2_with (first | (go_at_call 31;(with_reducible refine (impl_areArgs.calls k a0 true _ A3.out).mono ?_);rintro e w6 ⟨rfl,hb⟩;replace HB:=Aside0.mk (below_step q9_ hb);(try clear hb)) | ((with_reducible refine gate_callee (f:=32) rfl ?_);refine goesL_ (some 11) rfl rfl Tryd.func32 (by kernel_rfl) rfl #[.string a0,.string (⟨#[44]⟩:ByteArray)] rfl q7_ ?_;(with_reducible refine (strings_Split.calls a0 (⟨#[44]⟩:ByteArray) t162 _ A5.out).mono ?_);rintro e w7 ⟨v163,rfl,ho0,hb⟩;refine ⟨_,rfl,?_⟩;have n0_:=Aside0.mk (Kd.R_lower ho0 (below_size q9_));have n1_:=Aside0.mk (below_step q9_ hb);clear HB;have HO164:=n0_;have HB:=n1_;clear n0_ n1_;(try clear hb);(try clear ho0)))
  go_ret
  exact ⟨_,q10_,by (with_reducible repeat (first | apply Kd.R_alloc | apply Kd.R_drewN | apply Kd.R_drew));exact HO164.out,q9_⟩
 replace c4:=Bool.eq_false_iff.mpr c4
 subst c4
 rewrite [if_neg (show ¬ (false = true) by decide)] at H
 obtain rfl:=Option.some.inj H
 go_enter Tryd.func8,Tryd.ntmps8
 go_wp2_with (first | (go_at_call 31;(with_reducible refine (impl_areArgs.calls k a0 false _ A3.out).mono ?_);rintro e w8 ⟨rfl,hb⟩;replace HB:=Aside0.mk (below_step q9_ hb);(try clear hb)))
 go_ret
 exact ⟨_,q10_,q6_,q9_⟩
def laws_sameTexts.l0:Nat → List ByteArray → List ByteArray → Int → Option (Bool)
 | 0,_,_,_ => none
 | k + 1,x0,x1,x5 => if x5 < (x0.length:Int) then (if 0 ≤ x5 then (if x5 < (x1.length:Int) then (if (rdOf ByteArray.empty x0 x5).toList = (rdOf ByteArray.empty x1 x5).toList then (laws_sameTexts.l0 k x0 x1 (wrap64 (x5 + 1))) else (some false)) else (none)) else (none)) else (some true)
def laws_sameTexts.f (k:Nat) (l0:List ByteArray) (l1:List ByteArray):Option (Bool):=if (l0.length:Int) = (l1.length:Int) then (laws_sameTexts.l0 k l0 l1 0) else (some false)
theorem laws_sameTexts.calls (k:Nat) (A0:Option Addr) (c0:Nat) (l0:List ByteArray) (A1:Option Addr) (c1:Nat) (l1:List ByteArray) (r:Bool) (w:World) (hr0:Kd.C Kd.string w A0 l0.length l0) (hc0:l0.length ≤ c0) (hr1:Kd.C Kd.string w A1 l1.length l1) (hc1:l1.length ≤ c1) (h:laws_sameTexts.f k l0 l1 = some r) :
  Calls Tryd.prog 9 #[.slice A0 l0.length c0,.slice A1 l1.length c1] w fun e w' => e = .returned (.bool r) ∧ Drawn0 w w':=by
 have HR0:=Aside0.mk hr0
 have HC0:=Aside0.mk hc0
 clear hr0 hc0
 have HR1:=Aside0.mk hr1
 have HC1:=Aside0.mk hc1
 clear hr1 hc1
 have H:=h;unfold laws_sameTexts.f at H
 clear h
 by_cases c3:(l0.length:Int) = (l1.length:Int)
 ·rw [if_pos c3] at H
  have c3b0:((l0.length:Int) == (l1.length:Int)) = true:=beq_iff_eq.mpr c3
  have c3b1:((l0.length:Int) != (l1.length:Int)) = false:=bne_eq_false_iff_eq.mpr c3
  have c3b2:(l0.length == l1.length) = true:=by first | simpa using c3 | (simp at c3 ⊢;omega)
  clear c3
  have H':=Aside0.mk H
  clear H
  go_enter Tryd.func9,Tryd.ntmps9
  go_wp2
  repeat (go_quiet (fail);try go_wp2)
  go_loopg [5] k (fun kq v5 w' => ∃ (x5_1:Int),v5 = .int .i64 x5_1 ∧ Aside0 (laws_sameTexts.l0 kq l0 l1 x5_1 = some r) ∧ Aside0 (kq ≤ k) ∧ Drawn0 w w')
  case atStart => exact ⟨(0),q12_,H',⟨Nat.le_refl _⟩,q16_⟩
  clear H'
  try clear c1
  try clear p2
  try clear c3
  try clear c3b0
  try clear c3b1
  try clear c3b2
  obtain ⟨x5_1,rfl,HA,HK1,⟨m1,rfl⟩⟩:=hrel
  cases gk with
  | zero => exact absurd HA.out (by simp [laws_sameTexts.l0])
  | succ k1 =>
   have H:=HA.out
   clear HA
   simp only [laws_sameTexts.l0] at H
   by_cases c4:x5_1 < (l0.length:Int)
   ·rw [if_pos c4] at H
    have c4b0:=decide_eq_true c4
    clear c4
    by_cases c5:0 ≤ x5_1
    rotate_left
    ·rw [if_neg c5] at H
     exact absurd H (by simp)
    rw [if_pos c5] at H
    have c5b0:=decide_eq_true c5
    clear c5
    by_cases c6:x5_1 < (l1.length:Int)
    rotate_left
    ·rw [if_neg c6] at H
     exact absurd H (by simp)
    rw [if_pos c6] at H
    have c6b0:=decide_eq_true c6
    clear c6
    by_cases c7:(rdOf ByteArray.empty l0 x5_1).toList = (rdOf ByteArray.empty l1 x5_1).toList
    ·rw [if_pos c7] at H
     have c7b0:((rdOf ByteArray.empty l0 x5_1).toList == (rdOf ByteArray.empty l1 x5_1).toList) = true:=beq_iff_eq.mpr c7
     have c7b1:((rdOf ByteArray.empty l0 x5_1).toList != (rdOf ByteArray.empty l1 x5_1).toList) = false:=bne_eq_false_iff_eq.mpr c7
     clear c7
     have H':=Aside0.mk H
     clear H
     have p165:0 ≤ (x5_1:Int):=of_decide_eq_true q18_
     have q165:x5_1 < (l0.length:Int):=of_decide_eq_true q18_
     obtain ⟨ad165,e165,hx165_0⟩:=Kd.at_string HR0.out x5_1 p165 q165
     cases e165
     replace p165:=eq_true p165
     replace q165:=eq_true q165
     have p166:0 ≤ (x5_1:Int):=of_decide_eq_true q18_
     have q166:x5_1 < (l1.length:Int):=of_decide_eq_true q18_
     obtain ⟨ad166,e166,hx166_0⟩:=Kd.at_string HR1.out x5_1 p166 q166
     cases e166
     replace p166:=eq_true p166
     replace q166:=eq_true q166
     go_wp2
     repeat (go_quiet (fail);try go_wp2)
     go_roundg k1
     case measure => have:=HK1.out;omega
     case rel => exact ⟨(wrap64 (x5_1 + 1)),q12_,H',⟨by have:=HK1.out;omega⟩,q16_⟩
    rw [if_neg c7] at H
    have c7b0:((rdOf ByteArray.empty l0 x5_1).toList == (rdOf ByteArray.empty l1 x5_1).toList) = false:=beq_eq_false_iff_ne.mpr c7
    have c7b1:((rdOf ByteArray.empty l0 x5_1).toList != (rdOf ByteArray.empty l1 x5_1).toList) = true:=bne_iff_ne.mpr c7
    obtain rfl:=Option.some.inj H
    have p165:0 ≤ (x5_1:Int):=of_decide_eq_true q18_
    have q165:x5_1 < (l0.length:Int):=of_decide_eq_true q18_
    obtain ⟨ad165,e165,hx165_0⟩:=Kd.at_string HR0.out x5_1 p165 q165
    cases e165
    replace p165:=eq_true p165
    replace q165:=eq_true q165
    have p166:0 ≤ (x5_1:Int):=of_decide_eq_true q18_
    have q166:x5_1 < (l1.length:Int):=of_decide_eq_true q18_
    obtain ⟨ad166,e166,hx166_0⟩:=Kd.at_string HR1.out x5_1 p166 q166
    cases e166
    replace p166:=eq_true p166
    replace q166:=eq_true q166
    go_wp2
    repeat (go_quiet (fail);try go_wp2)
    go_ret
    exact ⟨q12_,q16_⟩
   rw [if_neg c4] at H
   have c4b0:=decide_eq_false c4
   clear c4
   obtain rfl:=Option.some.inj H
   go_wp2
   repeat (go_quiet (fail);try go_wp2)
   go_ret
   exact ⟨q12_,q16_⟩
 rw [if_neg c3] at H
 have c3b0:((l0.length:Int) == (l1.length:Int)) = false:=beq_eq_false_iff_ne.mpr c3
 have c3b1:((l0.length:Int) != (l1.length:Int)) = true:=bne_iff_ne.mpr c3
 have c3b2:(l0.length == l1.length) = false:=by first | simpa using c3 | (simp at c3 ⊢;omega)
 obtain rfl:=Option.some.inj H
 go_enter Tryd.func9,Tryd.ntmps9
 go_wp2
 repeat (go_quiet (fail);try go_wp2)
 go_ret
 exact ⟨q12_,q16_⟩
end Go.Proofs.YtoiiaklmjpiejaaDoor.QFnArgs
