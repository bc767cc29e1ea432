/- The machine's side of a law,written by a program of this session for this claim. -/
import Derived.Test.YtpghjbikjmnnoaaSFnEvalQq
import Derived.Test.YtpghjbikjmnnoaaSFnEvalQFnEvalx0
import Derived.Test.YtpghjbikjmnnoaaSFnEvalQFnEvalx1
import Derived.Test.YtpghjbikjmnnoaaSFnEvalQFnEvalx2
namespace Go.Proofs.Ytpghjbikjmnnoaa.QFnEval
open Go.Proofs.Ytpghjbikjmnnoaa.Qq
open Go.RowKit Go.Proofs.Ytpghjbikjmnnoaa.LibX Go.Proofs.Ytpghjbikjmnnoaa.LibG Go.Proofs.Ytpghjbikjmnnoaa.LibCv Go.Proofs.Ytpghjbikjmnnoaa.LibNm Go.Proofs.Ytpghjbikjmnnoaa.LibIx Go.Proofs.YtpghjbikjmnnoaaW.PrintWords Go.Proofs.YtpghjbikjmnnoaaW.PrintLast Go.Proofs.YtpghjbikjmnnoaaW.PrintMore
attribute [local go_sem] max2_int min2_int max_two min_two max_three min_three max_four min_four   -- for this text's walks alone
set_option maxHeartbeats 8000000
set_option maxRecDepth 100000
set_option linter.unusedVariables false
set_option linter.unusedSimpArgs false
def spec_l1Rd_once.f (s0_0:List Int) (s0_1:Int) (a1:Int):Option (Bool × Int):=(spec_l1Rd_below.f s0_0 s0_1 a1).bind fun bt159 => (some ((bt159.1 == (wrap64 (a1 - 1))),bt159.2))
theorem spec_l1Rd_once.calls (g:Nat) (s0_0:List Int) (s0_1:Int) (a1:Int) (r1:Bool) (r2:Int) (w0 w:World) (hI:IsS40 w0 w g s0_0 s0_1) (hB:Below w0.heap.size w0 w) (h:spec_l1Rd_once.f s0_0 s0_1 a1 = some (r1,r2)) :
  Calls Try.prog 19 #[.pointer (some ⟨g,0,none⟩),.int .i64 a1] w fun e w' => e = .returned (.bool r1) ∧ IsS40 w0 w' g s0_0 r2 ∧ Below w0.heap.size w0 w' ∧ KeepBut w w' g none:=by
 have HI0:=Aside0.mk hI
 have HK:=Aside0.mk (KeepBut.refl w g none)
 have HL:=Aside0.mk hB.size
 clear hI
 have HW0:=Aside0.mk hB.size
 have HB:=Aside0.mk hB
 clear hB
 have H:=h;unfold spec_l1Rd_once.f at H
 clear h
 replace H:=Option.bind_eq_some_iff.mp H
 obtain ⟨⟨t159,t160⟩,A30,H⟩:=H
 try dsimp -simprocs -eta only at H
 have A3:=Aside0.mk A30
 clear A30
 simp only [Option.some.injEq,Prod.mk.injEq] at H
 obtain ⟨rfl,rfl⟩:=H
 go_enter Try.func19,Try.ntmps19
 go_wp2_with (first | ((with_reducible refine gate_callee (f:=21) rfl ?_);refine goesL_ (some 7) rfl rfl Try.func21 (by kernel_rfl) rfl #[.pointer (some ⟨g,0,none⟩),.int .i64 a1] rfl q18_ ?_;(with_reducible refine (spec_l1Rd_below.calls g s0_0 s0_1 a1 t159 t160 w0 _ ?side1 ?side2 A3.out).mono ?_);(case side1 => exact q59_);(case side2 => exact q48_);rintro e w4 ⟨rfl,hi,hb,hk⟩;refine ⟨_,rfl,?_⟩;have n0_:=Aside0.mk (KeepBut.trans q17_ hk (.inl rfl));have n1_:=Aside0.mk (hb);have n2_:=Aside0.mk (hi);clear HK;clear HB;clear HI0;have HK:=n0_;have HB:=n1_;have HI0:=n2_;clear n0_ n1_ n2_;(try clear hb);(try clear hk);(try clear hi)))
 go_ret
 exact ⟨q21_,q16_,q7_,q17_⟩
def spec_l1Rd_word.l0:Nat → Int → Int → List Int → Int → Option (Int × Int)
 | 0,_,_,_,_ => none
 | k + 1,x3,x4,x1000,x1001 => if x4 < 8 then ((spec_l1Rd_next.f x1000 x1001).bind fun bt161 => (spec_l1Rd_word.l0 k (Go.bits .or .u64 (IntKind.u64.wrap (x3 * 256)) (IntKind.u64.wrap (bt161.1))) (wrap64 (x4 + 1)) x1000 bt161.2)) else (some (x3,x1001))
def spec_l1Rd_word.f (k:Nat) (s0_0:List Int) (s0_1:Int):Option (Int × Int):=spec_l1Rd_word.l0 k 0 0 s0_0 s0_1
theorem spec_l1Rd_word.mono_l:∀ k,(∀ y0 y1 y2 y3,LeO (spec_l1Rd_word.l0 k y0 y1 y2 y3) (spec_l1Rd_word.l0 (k + 1) y0 y1 y2 y3))
 | 0 => fun _ _ _ _ r h => by simp [spec_l1Rd_word.l0] at h
 | k + 1 => by
  have ih0:=spec_l1Rd_word.mono_l k
  intro y0 y1 y2 y3
  unfold spec_l1Rd_word.l0
  repeat' first
  | (with_reducible first | exact ih0 _ _ _ _ | exact LeO.refl _ | exact LeO.none _ | refine LeO.ite ?_ ?_ | refine LeO.bind ?_ (fun _ => ?_))
  | exact ih0 _ _ _ _
  | exact LeO.none _
  | refine LeO.ite ?_ ?_
  | refine LeO.bind ?_ (fun _ => ?_)
theorem spec_l1Rd_word.mono:∀ a0 a1 k,LeO (spec_l1Rd_word.f k a0 a1) (spec_l1Rd_word.f (k + 1) a0 a1):=by
 intro a0 a1 k
 have ih0:=spec_l1Rd_word.mono_l k
 unfold spec_l1Rd_word.f
 repeat' first
   | (with_reducible first | exact ih0 _ _ _ _ | exact LeO.refl _ | exact LeO.none _ | refine LeO.ite ?_ ?_ | refine LeO.bind ?_ (fun _ => ?_))
   | exact ih0 _ _ _ _
   | exact LeO.none _
   | refine LeO.ite ?_ ?_
   | refine LeO.bind ?_ (fun _ => ?_)
theorem spec_l1Rd_word.calls (k:Nat) (g:Nat) (s0_0:List Int) (s0_1:Int) (r1:Int) (r2:Int) (w0 w:World) (hI:IsS40 w0 w g s0_0 s0_1) (hB:Below w0.heap.size w0 w) (h:spec_l1Rd_word.f k s0_0 s0_1 = some (r1,r2)) :
  Calls Try.prog 50 #[.pointer (some ⟨g,0,none⟩)] w fun e w' => e = .returned (.int .u64 r1) ∧ IsS40 w0 w' g s0_0 r2 ∧ Below w0.heap.size w0 w' ∧ KeepBut w w' g none:=by
 have HI0:=Aside0.mk hI
 have HK:=Aside0.mk (KeepBut.refl w g none)
 have HL:=Aside0.mk hB.size
 clear hI
 have HW0:=Aside0.mk hB.size
 have HB:=Aside0.mk hB
 clear hB
 have H:(spec_l1Rd_word.l0 k 0 0 s0_0 s0_1) = some (r1,r2):=h
 clear h
 have H':=Aside0.mk H
 clear H
 go_enter Try.func50,Try.ntmps50
 go_wp2
 go_loopg [3,4] k (fun kq v3 v4 w' => ∃ (x3_1:Int) (x4_1:Int) (x1001_1:Int),v3 = .int .u64 x3_1 ∧ v4 = .int .i64 x4_1 ∧ Aside0 (spec_l1Rd_word.l0 kq x3_1 x4_1 s0_0 x1001_1 = some (r1,r2)) ∧ Aside0 (kq ≤ k) ∧ Aside0 (IsS40 w0 w' g s0_0 x1001_1) ∧ Aside0 (KeepBut w w' g none) ∧ Aside0 (Below w0.heap.size w0 w'))
 case atStart => exact ⟨(0),(0),(s0_1),q25_,q25_,H',⟨Nat.le_refl _⟩,⟨q16_⟩,⟨q17_⟩,⟨q7_⟩⟩
 clear H'
 obtain ⟨x3_1,x4_1,x1001_1,rfl,rfl,HA,HK1,HI0,HK,HB⟩:=hrel
 cases gk with
 | zero => exact absurd HA.out (by simp [spec_l1Rd_word.l0])
 | succ k1 =>
  have H:=HA.out
  clear HA
  simp only [spec_l1Rd_word.l0] at H
  by_cases c2:x4_1 < 8
  ·rw [if_pos c2] at H
   have c2b0:=decide_eq_true c2
   clear c2
   replace H:=Option.bind_eq_some_iff.mp H
   obtain ⟨⟨t161,t162⟩,A30,H⟩:=H
   try dsimp -simprocs -eta only at H
   have A3:=Aside0.mk A30
   clear A30
   have H':=Aside0.mk H
   clear H
   go_wp2_with (first | ((with_reducible refine gate_callee (f:=37) rfl ?_);refine goesL_ (some 12) rfl rfl Try.func37 (by kernel_rfl) rfl #[.pointer (some ⟨g,0,none⟩)] rfl q18_ ?_;(with_reducible refine (spec_l1Rd_next.calls g s0_0 x1001_1 t161 t162 w0 _ ?side1 ?side2 A3.out).mono ?_);(case side1 => exact q59_);(case side2 => exact q48_);rintro e w4 ⟨rfl,hi,hb,hk⟩;refine ⟨_,rfl,?_⟩;have n0_:=Aside0.mk (KeepBut.trans q17_ hk (.inl rfl));have n1_:=Aside0.mk (hb);have n2_:=Aside0.mk (hi);clear HK;clear HB;clear HI0;have HK:=n0_;have HB:=n1_;have HI0:=n2_;clear n0_ n1_ n2_;(try clear hb);(try clear hk);(try clear hi)))
   go_roundg k1
   case measure => have:=HK1.out;omega
   case rel => exact ⟨(Go.bits .or .u64 (IntKind.u64.wrap (x3_1 * 256)) (IntKind.u64.wrap (t161))),(wrap64 (x4_1 + 1)),(t162),q25_,q25_,H',⟨by have:=HK1.out;omega⟩,⟨q16_⟩,⟨q17_⟩,⟨q7_⟩⟩
  rw [if_neg c2] at H
  have c2b0:=decide_eq_false c2
  clear c2
  simp only [Option.some.injEq,Prod.mk.injEq] at H
  obtain ⟨rfl,rfl⟩:=H
  go_wp2
  go_ret
  exact ⟨q21_,q16_,q7_,q17_⟩
def spec_l1Rd_near.f (k:Nat) (s0_0:List Int) (s0_1:Int) (a1:Int) (a2:Int):Option (Int × Int):=(spec_l1Rd_below.f s0_0 s0_1 8).bind fun bt163 => (if bt163.1 = 0 then (some (a1,bt163.2)) else (if bt163.1 = 1 then (some (a2,bt163.2)) else (if a2 < a1 then (some (a1,bt163.2)) else ((spec_l1Rd_word.f k s0_0 bt163.2).bind fun bt165 => (if (IntKind.u64.wrap (wrap64 ((wrap64 (a2 - a1)) + 1))) = 0 then (none) else (some (wrap64 (a1 + (wrap64 (Int.tmod (bt165.1 / 2) (IntKind.u64.wrap (wrap64 ((wrap64 (a2 - a1)) + 1)))))),bt165.2)))))))
theorem spec_l1Rd_near.mono:∀ a0 a1 a2 a3 k,LeO (spec_l1Rd_near.f k a0 a1 a2 a3) (spec_l1Rd_near.f (k + 1) a0 a1 a2 a3):=by
 intro a0 a1 a2 a3 k
 unfold spec_l1Rd_near.f
 repeat' first
   | (with_reducible first | exact spec_l1Rd_word.mono _ _ _ | exact LeO.refl _ | exact LeO.none _ | refine LeO.ite ?_ ?_ | refine LeO.bind ?_ (fun _ => ?_))
   | exact spec_l1Rd_word.mono _ _ _
   | exact LeO.none _
   | refine LeO.ite ?_ ?_
   | refine LeO.bind ?_ (fun _ => ?_)
theorem spec_l1Rd_near.calls (k:Nat) (g:Nat) (s0_0:List Int) (s0_1:Int) (a1:Int) (a2:Int) (r1:Int) (r2:Int) (w0 w:World) (hI:IsS40 w0 w g s0_0 s0_1) (hB:Below w0.heap.size w0 w) (h:spec_l1Rd_near.f k s0_0 s0_1 a1 a2 = some (r1,r2)) :
  Calls Try.prog 36 #[.pointer (some ⟨g,0,none⟩),.int .i64 a1,.int .i64 a2] w fun e w' => e = .returned (.int .i64 r1) ∧ IsS40 w0 w' g s0_0 r2 ∧ Below w0.heap.size w0 w' ∧ KeepBut w w' g none:=by
 have HI0:=Aside0.mk hI
 have HK:=Aside0.mk (KeepBut.refl w g none)
 have HL:=Aside0.mk hB.size
 clear hI
 have HW0:=Aside0.mk hB.size
 have HB:=Aside0.mk hB
 clear hB
 have H:=h;unfold spec_l1Rd_near.f at H
 clear h
 replace H:=Option.bind_eq_some_iff.mp H
 obtain ⟨⟨t163,t164⟩,A40,H⟩:=H
 try dsimp -simprocs -eta only at H
 have A4:=Aside0.mk A40
 clear A40
 by_cases c5:t163 = 0
 ·rw [if_pos c5] at H
  have c5b0:(t163 == 0) = true:=beq_iff_eq.mpr c5
  have c5b1:(t163 != 0) = false:=bne_eq_false_iff_eq.mpr c5
  clear c5
  simp only [Option.some.injEq,Prod.mk.injEq] at H
  obtain ⟨rfl,rfl⟩:=H
  go_enter Try.func36,Try.ntmps36
  go_wp2_with (first | ((with_reducible refine gate_callee (f:=21) rfl ?_);refine goesL_ (some 8) rfl rfl Try.func21 (by kernel_rfl) rfl #[.pointer (some ⟨g,0,none⟩),.int .i64 8] rfl q18_ ?_;(with_reducible refine (spec_l1Rd_below.calls g s0_0 s0_1 8 t163 t164 w0 _ ?side1 ?side2 A4.out).mono ?_);(case side1 => exact q59_);(case side2 => exact q48_);rintro e w6 ⟨rfl,hi,hb,hk⟩;refine ⟨_,rfl,?_⟩;have n0_:=Aside0.mk (KeepBut.trans q17_ hk (.inl rfl));have n1_:=Aside0.mk (hb);have n2_:=Aside0.mk (hi);clear HK;clear HB;clear HI0;have HK:=n0_;have HB:=n1_;have HI0:=n2_;clear n0_ n1_ n2_;(try clear hb);(try clear hk);(try clear hi)))
  go_ret
  exact ⟨q21_,q16_,q7_,q17_⟩
 rw [if_neg c5] at H
 have c5b0:(t163 == 0) = false:=beq_eq_false_iff_ne.mpr c5
 have c5b1:(t163 != 0) = true:=bne_iff_ne.mpr c5
 by_cases c7:t163 = 1
 ·rw [if_pos c7] at H
  have c7b0:(t163 == 1) = true:=beq_iff_eq.mpr c7
  have c7b1:(t163 != 1) = false:=bne_eq_false_iff_eq.mpr c7
  clear c7
  simp only [Option.some.injEq,Prod.mk.injEq] at H
  obtain ⟨rfl,rfl⟩:=H
  go_enter Try.func36,Try.ntmps36
  go_wp2_with (first | ((with_reducible refine gate_callee (f:=21) rfl ?_);refine goesL_ (some 8) rfl rfl Try.func21 (by kernel_rfl) rfl #[.pointer (some ⟨g,0,none⟩),.int .i64 8] rfl q18_ ?_;(with_reducible refine (spec_l1Rd_below.calls g s0_0 s0_1 8 t163 t164 w0 _ ?side1 ?side2 A4.out).mono ?_);(case side1 => exact q59_);(case side2 => exact q48_);rintro e w8 ⟨rfl,hi,hb,hk⟩;refine ⟨_,rfl,?_⟩;have n0_:=Aside0.mk (KeepBut.trans q17_ hk (.inl rfl));have n1_:=Aside0.mk (hb);have n2_:=Aside0.mk (hi);clear HK;clear HB;clear HI0;have HK:=n0_;have HB:=n1_;have HI0:=n2_;clear n0_ n1_ n2_;(try clear hb);(try clear hk);(try clear hi)))
  go_ret
  exact ⟨q21_,q16_,q7_,q17_⟩
 rw [if_neg c7] at H
 have c7b0:(t163 == 1) = false:=beq_eq_false_iff_ne.mpr c7
 have c7b1:(t163 != 1) = true:=bne_iff_ne.mpr c7
 by_cases c9:a2 < a1
 ·rw [if_pos c9] at H
  have c9b0:=decide_eq_true c9
  clear c9
  simp only [Option.some.injEq,Prod.mk.injEq] at H
  obtain ⟨rfl,rfl⟩:=H
  go_enter Try.func36,Try.ntmps36
  go_wp2_with (first | ((with_reducible refine gate_callee (f:=21) rfl ?_);refine goesL_ (some 8) rfl rfl Try.func21 (by kernel_rfl) rfl #[.pointer (some ⟨g,0,none⟩),.int .i64 8] rfl q18_ ?_;(with_reducible refine (spec_l1Rd_below.calls g s0_0 s0_1 8 t163 t164 w0 _ ?side1 ?side2 A4.out).mono ?_);(case side1 => exact q59_);(case side2 => exact q48_);rintro e w10 ⟨rfl,hi,hb,hk⟩;refine ⟨_,rfl,?_⟩;have n0_:=Aside0.mk (KeepBut.trans q17_ hk (.inl rfl));have n1_:=Aside0.mk (hb);have n2_:=Aside0.mk (hi);clear HK;clear HB;clear HI0;have HK:=n0_;have HB:=n1_;have HI0:=n2_;clear n0_ n1_ n2_;(try clear hb);(try clear hk);(try clear hi)))
  go_ret
  exact ⟨q21_,q16_,q7_,q17_⟩
 rw [if_neg c9] at H
 have c9b0:=decide_eq_false c9
 clear c9
 replace H:=Option.bind_eq_some_iff.mp H
 obtain ⟨⟨t165,t166⟩,A110,H⟩:=H
 try dsimp -simprocs -eta only at H
 have A11:=Aside0.mk A110
 clear A110
 by_cases c12:(IntKind.u64.wrap (wrap64 ((wrap64 (a2 - a1)) + 1))) = 0
 ·rw [if_pos c12] at H
  exact absurd H (by simp)
 rw [if_neg c12] at H
 have c12b0:((IntKind.u64.wrap (wrap64 ((wrap64 (a2 - a1)) + 1))) == 0) = false:=beq_eq_false_iff_ne.mpr c12
 have c12b1:((IntKind.u64.wrap (wrap64 ((wrap64 (a2 - a1)) + 1))) != 0) = true:=bne_iff_ne.mpr c12
 simp only [Option.some.injEq,Prod.mk.injEq] at H
 obtain ⟨rfl,rfl⟩:=H
 go_enter Try.func36,Try.ntmps36
 go_wp2_with (first | ((with_reducible refine gate_callee (f:=21) rfl ?_);refine goesL_ (some 8) rfl rfl Try.func21 (by kernel_rfl) rfl #[.pointer (some ⟨g,0,none⟩),.int .i64 8] rfl q18_ ?_;(with_reducible refine (spec_l1Rd_below.calls g s0_0 s0_1 8 t163 t164 w0 _ ?side1 ?side2 A4.out).mono ?_);(case side1 => exact q59_);(case side2 => exact q48_);rintro e w13 ⟨rfl,hi,hb,hk⟩;refine ⟨_,rfl,?_⟩;have n0_:=Aside0.mk (KeepBut.trans q17_ hk (.inl rfl));have n1_:=Aside0.mk (hb);have n2_:=Aside0.mk (hi);clear HK;clear HB;clear HI0;have HK:=n0_;have HB:=n1_;have HI0:=n2_;clear n0_ n1_ n2_;(try clear hb);(try clear hk);(try clear hi)) | ((with_reducible refine gate_callee (f:=50) rfl ?_);refine goesL_ (some 21) rfl rfl Try.func50 (by kernel_rfl) rfl #[.pointer (some ⟨g,0,none⟩)] rfl q18_ ?_;(with_reducible refine (spec_l1Rd_word.calls k g s0_0 t164 t165 t166 w0 _ ?side1 ?side2 A11.out).mono ?_);(case side1 => exact q59_);(case side2 => exact q48_);rintro e w14 ⟨rfl,hi,hb,hk⟩;refine ⟨_,rfl,?_⟩;have n0_:=Aside0.mk (KeepBut.trans q17_ hk (.inl rfl));have n1_:=Aside0.mk (hb);have n2_:=Aside0.mk (hi);clear HK;clear HB;clear HI0;have HK:=n0_;have HB:=n1_;have HI0:=n2_;clear n0_ n1_ n2_;(try clear hb);(try clear hk);(try clear hi)))
 go_ret
 exact ⟨q21_,q16_,q7_,q17_⟩
def spec_l1Rd_off.f (k:Nat) (s0_0:List Int) (s0_1:Int) (a1:Int) (a2:Int):Option (Int × Int):=(spec_l1Rd_once.f s0_0 s0_1 24).bind fun bt167 => (if bt167.1 = true then ((some (([wrap64 (a1 - 1),wrap64 (a2 + 1),(-9223372036854775808),9223372036854775807]:List Int):List Int)).bind fun y169 => ((spec_l1Rd_below.f s0_0 bt167.2 4).bind fun bt172 => (if 0 ≤ bt172.1 then (if bt172.1 < (y169.length:Int) then (some (rd y169 bt172.1,bt172.2)) else (none)) else (none)))) else ((spec_l1Rd_near.f k s0_0 bt167.2 a1 a2).bind fun bt175 => (some (bt175.1,bt175.2))))
theorem spec_l1Rd_off.mono:∀ a0 a1 a2 a3 k,LeO (spec_l1Rd_off.f k a0 a1 a2 a3) (spec_l1Rd_off.f (k + 1) a0 a1 a2 a3):=by
 intro a0 a1 a2 a3 k
 unfold spec_l1Rd_off.f
 repeat' first
   | (with_reducible first | exact spec_l1Rd_near.mono _ _ _ _ _ | exact LeO.refl _ | exact LeO.none _ | refine LeO.ite ?_ ?_ | refine LeO.bind ?_ (fun _ => ?_))
   | exact spec_l1Rd_near.mono _ _ _ _ _
   | exact LeO.none _
   | refine LeO.ite ?_ ?_
   | refine LeO.bind ?_ (fun _ => ?_)
theorem spec_l1Rd_off.calls (k:Nat) (g:Nat) (s0_0:List Int) (s0_1:Int) (a1:Int) (a2:Int) (r1:Int) (r2:Int) (w0 w:World) (hI:IsS40 w0 w g s0_0 s0_1) (hB:Below w0.heap.size w0 w) (h:spec_l1Rd_off.f k s0_0 s0_1 a1 a2 = some (r1,r2)) :
  Calls Try.prog 20 #[.pointer (some ⟨g,0,none⟩),.int .i64 a1,.int .i64 a2] w fun e w' => e = .returned (.int .i64 r1) ∧ IsS40 w0 w' g s0_0 r2 ∧ Below w0.heap.size w0 w' ∧ KeepBut w w' g none:=by
 have HI0:=Aside0.mk hI
 have HK:=Aside0.mk (KeepBut.refl w g none)
 have HL:=Aside0.mk hB.size
 clear hI
 have HW0:=Aside0.mk hB.size
 have HB:=Aside0.mk hB
 clear hB
 have H:=h;unfold spec_l1Rd_off.f at H
 clear h
 replace H:=Option.bind_eq_some_iff.mp H
 obtain ⟨⟨t167,t168⟩,A40,H⟩:=H
 try dsimp -simprocs -eta only at H
 have A4:=Aside0.mk A40
 clear A40
 by_cases c5:t167 = true
 ·subst c5
  rewrite [if_pos rfl] at H
  obtain ⟨y169,hy169⟩:∃ y_:List Int,y_ = (([wrap64 (a1 - 1),wrap64 (a2 + 1),(-9223372036854775808),9223372036854775807]:List Int)):=⟨_,rfl⟩
  replace H:((spec_l1Rd_below.f s0_0 t168 4).bind fun bt172 => (if 0 ≤ bt172.1 then (if bt172.1 < (y169.length:Int) then (some (rd y169 bt172.1,bt172.2)) else (none)) else (none))) = some (r1,r2):=by first | (rw [hy169];exact H) | exact H
  have Ny169:=Aside0.mk hy169
  clear hy169
  replace H:=Option.bind_eq_some_iff.mp H
  obtain ⟨⟨t172,t173⟩,A60,H⟩:=H
  try dsimp -simprocs -eta only at H
  have A6:=Aside0.mk A60
  clear A60
  by_cases c7:0 ≤ t172
  rotate_left
  ·rw [if_neg c7] at H
   exact absurd H (by simp)
  rw [if_pos c7] at H
  have c7b0:=decide_eq_true c7
  clear c7
  by_cases c8:t172 < (y169.length:Int)
  rotate_left
  ·rw [if_neg c8] at H
   exact absurd H (by simp)
  rw [if_pos c8] at H
  have c8b0:=decide_eq_true c8
  clear c8
  simp only [Option.some.injEq,Prod.mk.injEq] at H
  obtain ⟨rfl,rfl⟩:=H
  go_enter Try.func20,Try.ntmps20
  go_wp2_with (first | ((with_reducible refine gate_callee (f:=19) rfl ?_);refine goesL_ (some 8) rfl rfl Try.func19 (by kernel_rfl) rfl #[.pointer (some ⟨g,0,none⟩),.int .i64 24] rfl q18_ ?_;(with_reducible refine (spec_l1Rd_once.calls g s0_0 s0_1 24 true t168 w0 _ ?side1 ?side2 A4.out).mono ?_);(case side1 => exact q59_);(case side2 => exact q48_);rintro e w9 ⟨rfl,hi,hb,hk⟩;refine ⟨_,rfl,?_⟩;have n0_:=Aside0.mk (KeepBut.trans q17_ hk (.inl rfl));have n1_:=Aside0.mk (hb);have n2_:=Aside0.mk (hi);clear HK;clear HB;clear HI0;have HK:=n0_;have HB:=n1_;have HI0:=n2_;clear n0_ n1_ n2_;(try clear hb);(try clear hk);(try clear hi)) | ((with_reducible refine gate_dst (N:=13) rfl ?_);refine Kd.R_lit (Kd.int .i64) _ 2 ?hg (N:=13) ?hd (xs:=([wrap64 (a1 - 1),wrap64 (a2 + 1),(-9223372036854775808),9223372036854775807]:List Int)) (inner:=[.int .i64 (wrap64 (a1 - 1)),.int .i64 (wrap64 (a2 + 1)),.int .i64 (-9223372036854775808),.int .i64 9223372036854775807]) (ok:=fun _ => True) (okp:=fun _ => True) ?hr ?hp (fun _ hk => hk) trivial (Below.refl _ _) (Nat.le_refl _) (by simp) ?_;(case hd => rfl);(case hg => rfl);(case hr => exact q62_);(case hp => exact (Reps.one (show Kd.M (Kd.int .i64) _ _ _ (wrap64 (a1 - 1)) [.int .i64 (wrap64 (a1 - 1))] from rfl) (Reps.one (show Kd.M (Kd.int .i64) _ _ _ (wrap64 (a2 + 1)) [.int .i64 (wrap64 (a2 + 1))] from rfl) (Reps.one (show Kd.M (Kd.int .i64) _ _ _ (-9223372036854775808) [.int .i64 (-9223372036854775808)] from rfl) (Reps.one (show Kd.M (Kd.int .i64) _ _ _ 9223372036854775807 [.int .i64 9223372036854775807] from rfl) (Reps.none _ _))))));intro v170 w10 ho11 hb hg_ hnew_;clear hg_ hnew_;(first | rw [← Ny169.out] at ho11 | (simp only [Int.reduceToNat] at ho11;rw [← Ny169.out] at ho11));have n0_:=Aside0.mk (Kd.R_lower ho11 (keep_size (w:=w) (g:=g) (row:=none) q17_));have n1_:=Aside0.mk (IsS40.below q16_ hb);have n2_:=Aside0.mk (KeepBut.trans q17_ (KeepBut.of_below hb g none) (.inl rfl));have n3_:=Aside0.mk (below_step q7_ hb);clear HI0;clear HK;clear HB;have HO171:=n0_;have HI0:=n1_;have HK:=n2_;have HB:=n3_;clear n0_ n1_ n2_ n3_;clear hb ho11) | ((with_reducible refine gate_callee (f:=21) rfl ?_);refine goesL_ (some 15) rfl rfl Try.func21 (by kernel_rfl) rfl #[.pointer (some ⟨g,0,none⟩),.int .i64 4] rfl q18_ ?_;(with_reducible refine (spec_l1Rd_below.calls g s0_0 t168 4 t172 t173 w0 _ ?side1 ?side2 A6.out).mono ?_);(case side1 => exact q59_);(case side2 => exact q48_);rintro e w12 ⟨rfl,hi,hb,hk⟩;refine ⟨_,rfl,?_⟩;have n0_:=Aside0.mk (Kd.R_mono (Kd.R_keep (IsS40.apart (show IsS40 w0 _ g s0_0 t168 from by repeat (first | (with_reducible first | exact HI0.out | apply IsS40.alloc | apply IsS40.drewN | apply IsS40.drew | apply IsS40.set_1) | exact HI0.out)) (by (with_reducible repeat (first | apply Kd.R_alloc | apply Kd.R_drewN | apply Kd.R_drew));exact HO171.out) (by decide)) hk (fun _ h => h.2)) (fun _ h => h.1));have n1_:=Aside0.mk (KeepBut.trans q17_ hk (.inl rfl));have n2_:=Aside0.mk (hb);have n3_:=Aside0.mk (hi);clear HO171;clear HK;clear HB;clear HI0;have HO171:=n0_;have HK:=n1_;have HB:=n2_;have HI0:=n3_;clear n0_ n1_ n2_ n3_;(try clear hb);(try clear hk);(try clear hi);obtain ⟨Ao13,co13,eo13⟩:=Kd.R_slice HO171.out;subst eo13;have p174:0 ≤ (t172:Int):=of_decide_eq_true q42_;have q174:t172 < (y169.length:Int):=of_decide_eq_true q42_;obtain ⟨ad174,e174,hx174_0⟩:=Kd.at_int (Kd.R_reads' HO171.out).2.2 t172 p174 q174;cases e174;replace p174:=eq_true p174;replace q174:=eq_true q174))
  go_ret
  exact ⟨q21_,q16_,q7_,q17_⟩
 replace c5:=Bool.eq_false_iff.mpr c5
 subst c5
 rewrite [if_neg (show ¬ (false = true) by decide)] at H
 replace H:=Option.bind_eq_some_iff.mp H
 obtain ⟨⟨t175,t176⟩,A140,H⟩:=H
 try dsimp -simprocs -eta only at H
 have A14:=Aside0.mk A140
 clear A140
 simp only [Option.some.injEq,Prod.mk.injEq] at H
 obtain ⟨rfl,rfl⟩:=H
 go_enter Try.func20,Try.ntmps20
 go_wp2_with (first | ((with_reducible refine gate_callee (f:=19) rfl ?_);refine goesL_ (some 8) rfl rfl Try.func19 (by kernel_rfl) rfl #[.pointer (some ⟨g,0,none⟩),.int .i64 24] rfl q18_ ?_;(with_reducible refine (spec_l1Rd_once.calls g s0_0 s0_1 24 false t168 w0 _ ?side1 ?side2 A4.out).mono ?_);(case side1 => exact q59_);(case side2 => exact q48_);rintro e w15 ⟨rfl,hi,hb,hk⟩;refine ⟨_,rfl,?_⟩;have n0_:=Aside0.mk (KeepBut.trans q17_ hk (.inl rfl));have n1_:=Aside0.mk (hb);have n2_:=Aside0.mk (hi);clear HK;clear HB;clear HI0;have HK:=n0_;have HB:=n1_;have HI0:=n2_;clear n0_ n1_ n2_;(try clear hb);(try clear hk);(try clear hi)) | ((with_reducible refine gate_callee (f:=36) rfl ?_);refine goesL_ (some 21) rfl rfl Try.func36 (by kernel_rfl) rfl #[.pointer (some ⟨g,0,none⟩),.int .i64 a1,.int .i64 a2] rfl q18_ ?_;(with_reducible refine (spec_l1Rd_near.calls k g s0_0 t168 a1 a2 t175 t176 w0 _ ?side1 ?side2 A14.out).mono ?_);(case side1 => exact q59_);(case side2 => exact q48_);rintro e w16 ⟨rfl,hi,hb,hk⟩;refine ⟨_,rfl,?_⟩;have n0_:=Aside0.mk (KeepBut.trans q17_ hk (.inl rfl));have n1_:=Aside0.mk (hb);have n2_:=Aside0.mk (hi);clear HK;clear HB;clear HI0;have HK:=n0_;have HB:=n1_;have HI0:=n2_;clear n0_ n1_ n2_;(try clear hb);(try clear hk);(try clear hi)))
 go_ret
 exact ⟨q21_,q16_,q7_,q17_⟩
def spec_l1Rd_expr.f (k:Nat) (s0_0:List Int) (s0_1:Int):Option ((List (S45)) × Int):=(spec_l1Rd_infix.f k s0_0 s0_1 1).bind fun bt177 => ((spec_Compiled.f k bt177.1).bind fun bt179 => (if bt179.2 = true then ((spec_l1Rd_once.f s0_0 bt177.2 20).bind fun bt186 => (if bt186.1 = true then ((spec_l1Rd_below.f s0_0 bt186.2 (bt179.1.length:Int)).bind fun bt188 => ((spec_l1Rd_off.f k s0_0 bt188.2 1 17).bind fun bt190 => (if 0 ≤ bt188.1 then (if bt188.1 < (bt179.1.length:Int) then (some ((bt179.1.set (bt188.1:Int).toNat (⟨bt190.1,(rd_T45 bt179.1 bt188.1).f1,(rd_T45 bt179.1 bt188.1).f2⟩:S45)),bt190.2)) else (none)) else (none)))) else (some (bt179.1,bt186.2)))) else (some ((([(⟨1,5,(⟨#[]⟩:ByteArray)⟩:S45)]:List (S45))),bt177.2))))
theorem spec_l1Rd_expr.mono:∀ a0 a1 k,LeO (spec_l1Rd_expr.f k a0 a1) (spec_l1Rd_expr.f (k + 1) a0 a1):=by
 intro a0 a1 k
 unfold spec_l1Rd_expr.f
 repeat' first
   | (with_reducible first | exact spec_Compiled.mono _ _ | exact spec_l1Rd_infix.mono _ _ _ _ | exact spec_l1Rd_off.mono _ _ _ _ _ | exact LeO.refl _ | exact LeO.none _ | refine LeO.ite ?_ ?_ | refine LeO.bind ?_ (fun _ => ?_))
   | exact spec_Compiled.mono _ _
   | exact spec_l1Rd_infix.mono _ _ _ _
   | exact spec_l1Rd_off.mono _ _ _ _ _
   | exact LeO.none _
   | refine LeO.ite ?_ ?_
   | refine LeO.bind ?_ (fun _ => ?_)
theorem spec_l1Rd_expr.calls (k:Nat) (g:Nat) (s0_0:List Int) (s0_1:Int) (r1:List (S45)) (r2:Int) (w0 w:World) (hI:IsS40 w0 w g s0_0 s0_1) (hB:Below w0.heap.size w0 w) (h:spec_l1Rd_expr.f k s0_0 s0_1 = some (r1,r2)) :
  Calls Try.prog 10 #[.pointer (some ⟨g,0,none⟩)] w fun e w' => ∃ v0_:Value,e = .returned (v0_) ∧ Kd.R k45 45 w' w.heap.size (fun _ => True) v0_ r1 ∧ IsS40 w0 w' g s0_0 r2 ∧ Below w0.heap.size w0 w' ∧ KeepBut w w' g none:=by
 have hu45:=Try.underlying45
 have HI0:=Aside0.mk hI
 have HK:=Aside0.mk (KeepBut.refl w g none)
 have HL:=Aside0.mk hB.size
 clear hI
 have HW0:=Aside0.mk hB.size
 have HB:=Aside0.mk hB
 clear hB
 have H:=h;unfold spec_l1Rd_expr.f at H
 clear h
 replace H:=Option.bind_eq_some_iff.mp H
 obtain ⟨⟨t177,t178⟩,A20,H⟩:=H
 try dsimp -simprocs -eta only at H
 have A2:=Aside0.mk A20
 clear A20
 replace H:=Option.bind_eq_some_iff.mp H
 obtain ⟨⟨t179,t180⟩,A30,H⟩:=H
 try dsimp -simprocs -eta only at H
 have A3:=Aside0.mk A30
 clear A30
 by_cases c4:t180 = true
 ·subst c4
  rewrite [if_pos rfl] at H
  replace H:=Option.bind_eq_some_iff.mp H
  obtain ⟨⟨t186,t187⟩,A50,H⟩:=H
  try dsimp -simprocs -eta only at H
  have A5:=Aside0.mk A50
  clear A50
  by_cases c6:t186 = true
  ·subst c6
   rewrite [if_pos rfl] at H
   replace H:=Option.bind_eq_some_iff.mp H
   obtain ⟨⟨t188,t189⟩,A70,H⟩:=H
   try dsimp -simprocs -eta only at H
   have A7:=Aside0.mk A70
   clear A70
   replace H:=Option.bind_eq_some_iff.mp H
   obtain ⟨⟨t190,t191⟩,A80,H⟩:=H
   try dsimp -simprocs -eta only at H
   have A8:=Aside0.mk A80
   clear A80
   by_cases c9:0 ≤ t188
   rotate_left
   ·rw [if_neg c9] at H
    exact absurd H (by simp)
   rw [if_pos c9] at H
   have c9b0:=decide_eq_true c9
   clear c9
   by_cases c10:t188 < (t179.length:Int)
   rotate_left
   ·rw [if_neg c10] at H
    exact absurd H (by simp)
   rw [if_pos c10] at H
   have c10b0:=decide_eq_true c10
   clear c10
   obtain ⟨y192,hy192⟩:∃ y_:List (S45),y_ = (t179.set (t188:Int).toNat (⟨t190,(rd_T45 t179 t188).f1,(rd_T45 t179 t188).f2⟩:S45)):=⟨_,rfl⟩
   replace H:(some (y192,t191)) = some (r1,r2):=by first | (rw [hy192];exact H) | exact H
   have Ny192:=Aside0.mk hy192
   clear hy192
   simp only [Option.some.injEq,Prod.mk.injEq] at H
   obtain ⟨rfl,rfl⟩:=H
   go_enter Try.func10,Try.ntmps10
   go_wp2_with (first | ((with_reducible refine gate_callee (f:=18) rfl ?_);refine goesL_ (some 7) rfl rfl Try.func18 (by kernel_rfl) rfl #[.pointer (some ⟨g,0,none⟩),.int .i64 1] rfl q18_ ?_;(with_reducible refine (spec_l1Rd_infix.calls k g s0_0 s0_1 1 t177 t178 w0 _ ?side1 ?side2 A2.out).mono ?_);(case side1 => exact q59_);(case side2 => exact q48_);rintro e w12 ⟨rfl,hi,hb,hk⟩;refine ⟨_,rfl,?_⟩;have n0_:=Aside0.mk (KeepBut.trans q17_ hk (.inl rfl));have n1_:=Aside0.mk (hb);have n2_:=Aside0.mk (hi);clear HK;clear HB;clear HI0;have HK:=n0_;have HB:=n1_;have HI0:=n2_;clear n0_ n1_ n2_;(try clear hb);(try clear hk);(try clear hi)) | ((with_reducible refine gate_callee (f:=17) rfl ?_);refine goesL_ (some 8) rfl rfl Try.func17 (by kernel_rfl) rfl #[.string t177] rfl q18_ ?_;(with_reducible refine (spec_Compiled.calls k t177 t179 true _ A3.out).mono ?_);rintro e w13 ⟨v181,rfl,ho0,hb⟩;refine ⟨_,rfl,?_⟩;have n0_:=Aside0.mk (Kd.R_lower ho0 (keep_size (w:=w) (g:=g) (row:=none) q17_));have n1_:=Aside0.mk (IsS40.below q16_ hb);have n2_:=Aside0.mk (KeepBut.trans q17_ (KeepBut.of_below hb g none) (.inl rfl));have n3_:=Aside0.mk (below_step q7_ hb);clear HI0;clear HK;clear HB;have HO182:=n0_;have HI0:=n1_;have HK:=n2_;have HB:=n3_;clear n0_ n1_ n2_ n3_;(try clear hb);(try clear ho0)) | ((with_reducible refine gate_callee (f:=19) rfl ?_);refine goesL_ (some 16) rfl rfl Try.func19 (by kernel_rfl) rfl #[.pointer (some ⟨g,0,none⟩),.int .i64 20] rfl q18_ ?_;(with_reducible refine (spec_l1Rd_once.calls g s0_0 t178 20 true t187 w0 _ ?side1 ?side2 A5.out).mono ?_);(case side1 => exact q59_);(case side2 => exact q48_);rintro e w14 ⟨rfl,hi,hb,hk⟩;refine ⟨_,rfl,?_⟩;have n0_:=Aside0.mk (Kd.R_mono (Kd.R_keep (IsS40.apart (show IsS40 w0 _ g s0_0 t178 from by repeat (first | (with_reducible first | exact HI0.out | apply IsS40.alloc | apply IsS40.drewN | apply IsS40.drew | apply IsS40.set_1) | exact HI0.out)) q28_ (by decide)) hk (fun _ h => h.2)) (fun _ h => h.1));have n1_:=Aside0.mk (KeepBut.trans q17_ hk (.inl rfl));have n2_:=Aside0.mk (hb);have n3_:=Aside0.mk (hi);clear HO182;clear HK;clear HB;clear HI0;have HO182:=n0_;have HK:=n1_;have HB:=n2_;have HI0:=n3_;clear n0_ n1_ n2_ n3_;(try clear hb);(try clear hk);(try clear hi);obtain ⟨Ao15,co15,eo15⟩:=Kd.R_slice HO182.out;subst eo15) | ((with_reducible refine gate_callee (f:=21) rfl ?_);refine goesL_ (some 21) rfl rfl Try.func21 (by kernel_rfl) rfl #[.pointer (some ⟨g,0,none⟩),.int .i64 (t179.length:Int)] rfl q18_ ?_;(with_reducible refine (spec_l1Rd_below.calls g s0_0 t187 (t179.length:Int) t188 t189 w0 _ ?side1 ?side2 A7.out).mono ?_);(case side1 => exact q59_);(case side2 => exact q48_);rintro e w16 ⟨rfl,hi,hb,hk⟩;refine ⟨_,rfl,?_⟩;have n0_:=Aside0.mk (Kd.R_mono (Kd.R_keep (IsS40.apart (show IsS40 w0 _ g s0_0 t187 from by repeat (first | (with_reducible first | exact HI0.out | apply IsS40.alloc | apply IsS40.drewN | apply IsS40.drew | apply IsS40.set_1) | exact HI0.out)) q28_ (by decide)) hk (fun _ h => h.2)) (fun _ h => h.1));have n1_:=Aside0.mk (KeepBut.trans q17_ hk (.inl rfl));have n2_:=Aside0.mk (hb);have n3_:=Aside0.mk (hi);clear HO182;clear HK;clear HB;clear HI0;have HO182:=n0_;have HK:=n1_;have HB:=n2_;have HI0:=n3_;clear n0_ n1_ n2_ n3_;(try clear hb);(try clear hk);(try clear hi)) | ((with_reducible refine gate_callee (f:=20) rfl ?_);refine goesL_ (some 23) rfl rfl Try.func20 (by kernel_rfl) rfl #[.pointer (some ⟨g,0,none⟩),.int .i64 1,.int .i64 17] rfl q18_ ?_;(with_reducible refine (spec_l1Rd_off.calls k g s0_0 t189 1 17 t190 t191 w0 _ ?side1 ?side2 A8.out).mono ?_);(case side1 => exact q59_);(case side2 => exact q48_);rintro e w17 ⟨rfl,hi,hb,hk⟩;refine ⟨_,rfl,?_⟩;have n0_:=Aside0.mk (Kd.R_mono (Kd.R_keep (IsS40.apart (show IsS40 w0 _ g s0_0 t189 from by repeat (first | (with_reducible first | exact HI0.out | apply IsS40.alloc | apply IsS40.drewN | apply IsS40.drew | apply IsS40.set_1) | exact HI0.out)) q28_ (by decide)) hk (fun _ h => h.2)) (fun _ h => h.1));have n1_:=Aside0.mk (KeepBut.trans q17_ hk (.inl rfl));have n2_:=Aside0.mk (hb);have n3_:=Aside0.mk (hi);clear HO182;clear HK;clear HB;clear HI0;have HO182:=n0_;have HK:=n1_;have HB:=n2_;have HI0:=n3_;clear n0_ n1_ n2_ n3_;(try clear hb);(try clear hk);(try clear hi);have p11:0 ≤ (t188:Int):=of_decide_eq_true q42_;have q11:(t188:Int) < ((t179.length:Int):Int):=of_decide_eq_true q42_;obtain ⟨go11,co11,eo11,gb11,gl11,cl11,HG11⟩:=Kd.R_form HO182.out (by omega);(first | cases eo11 | (injection eo11 with ea_ en_ ec_;(first | subst ea_ | (injection ea_ with ea_;subst ea_));subst ec_;clear en_));have GB11:=Aside0.mk gb11;have GG11:=Aside0.mk HG11;clear gb11 gl11 HG11;obtain ⟨ce11,hcl11,hM11,hcc11,hfr11⟩:=Kd.R_elem HO182.out z45 (t188:Int) p11 q11;obtain rfl:=k45_openM hM11;have hx11_0:w17.cell? ⟨go11,(t188:Int).toNat * 3,none⟩ = some (.int .i64 ((rd_T45 t179 t188).f0)):=hcc11 0 _ rfl;have hx11_1:w17.cell? ⟨go11,(t188:Int).toNat * 3 + 1,none⟩ = some (.int .i64 ((rd_T45 t179 t188).f1)):=hcc11 1 _ rfl;have hx11_2:w17.cell? ⟨go11,(t188:Int).toNat * 3 + 2,none⟩ = some (.string ((rd_T45 t179 t188).f2)):=hcc11 2 _ rfl;have hf11_0:w17.frozen? ⟨go11,(t188:Int).toNat * 3,none⟩ = false:=hfr11 0;have hf11_1:w17.frozen? ⟨go11,(t188:Int).toNat * 3 + 1,none⟩ = false:=hfr11 1;have hf11_2:w17.frozen? ⟨go11,(t188:Int).toNat * 3 + 2,none⟩ = false:=hfr11 2;clear hcl11 hcc11 hfr11 hM11;replace p11:=eq_true p11;replace q11:=eq_true q11;have HX18:=Aside0.mk (show Kd.R k45 45 w17 w.heap.size (fun _ => True) (.slice (some ⟨go11,0,none⟩) t179.length co15) t179 from q28_);obtain ⟨ce18,hcl18,hM18,hcc18,hfr18⟩:=Kd.R_elem HX18.out z45 (t188:Int) (of_decide_eq_true q42_) (by have h_:(t188:Int) < ((t179.length:Int):Int):=of_decide_eq_true q42_;first | exact h_ | (have e_:=(Kd.R_reads' HO182.out).1;omega) | simpa using h_);obtain rfl:=k45_openM hM18;have HP18:=Kd.R_seg HX18.out (t188:Int) (of_decide_eq_true q42_) (by have h_:(t188:Int) < ((t179.length:Int):Int):=of_decide_eq_true q42_;first | exact h_ | (have e_:=(Kd.R_reads' HO182.out).1;omega) | simpa using h_) (seg:=[.int .i64 t190]) (j:=0) hcl18 hcc18 (show 1 ≤ 3 from by decide) (x':=(⟨t190,(rd_T45 t179 t188).f1,(rd_T45 t179 t188).f2⟩:S45)) (k45_mkM _ _ _ (⟨t190,(rd_T45 t179 t188).f1,(rd_T45 t179 t188).f2⟩:S45) ) (fun _ hk => hk);have hx18_0:=hcc18 0 _ rfl;(try simp only [show (k45).sz = 3 from rfl,Nat.mul_one,Nat.add_zero] at hx18_0);have hf18_0:=hfr18 0;(try simp only [show (k45).sz = 3 from rfl,Nat.mul_one,Nat.add_zero] at hf18_0);clear hcl18 hcc18 hfr18 hM18) | ((with_reducible refine gate_store (t:=2) (p:=25) rfl ?_);refine store_event (t:=2) (p:=25) (v:=?vo_w19) (w1:=(w17.setCell ⟨go11,(t188:Int).toNat * 3,none⟩ (.int .i64 t190))) ?hg ?ho ?hn ?hr ?_;(case ho => rfl);(case hg => rfl);(case hn => rfl);(case hr => exact q62_);intro w19 hw;have hg:w17.grownBy w19 (some go11):=(by rw [hw];exact HP18.2);have hp_:Kd.R k45 45 w19 w.heap.size (fun _ => True) (.slice (some ⟨go11,0,none⟩) t179.length co15) y192:=(by rw [hw,Ny192.out];exact HP18.1);clear HP18;have n0_:=Aside0.mk (IsS40.grown q16_ hg (IsS40.own_ne HI0.out HO182.out (by decide)));have n1_:=Aside0.mk (hp_);have n2_:=Aside0.mk ((by rw [hw];exact below_set (HB.out) (Nat.le_trans HL.out GB11.out):Below w0.heap.size w0 w19));have n3_:=Aside0.mk (KeepBut.trans q17_ (KeepBut.of_grown hg g) (Kd.R_base2 HO182.out));clear HI0;clear HO182;clear HB;clear HK;have HI0:=n0_;have HO182:=n1_;have HB:=n2_;have HK:=n3_;clear n0_ n1_ n2_ n3_;clear hg hw hp_))
   go_ret
   exact ⟨_,q21_,q28_,q16_,q7_,q17_⟩
  replace c6:=Bool.eq_false_iff.mpr c6
  subst c6
  rewrite [if_neg (show ¬ (false = true) by decide)] at H
  simp only [Option.some.injEq,Prod.mk.injEq] at H
  obtain ⟨rfl,rfl⟩:=H
  go_enter Try.func10,Try.ntmps10
  go_wp2_with (first | ((with_reducible refine gate_callee (f:=18) rfl ?_);refine goesL_ (some 7) rfl rfl Try.func18 (by kernel_rfl) rfl #[.pointer (some ⟨g,0,none⟩),.int .i64 1] rfl q18_ ?_;(with_reducible refine (spec_l1Rd_infix.calls k g s0_0 s0_1 1 t177 t178 w0 _ ?side1 ?side2 A2.out).mono ?_);(case side1 => exact q59_);(case side2 => exact q48_);rintro e w20 ⟨rfl,hi,hb,hk⟩;refine ⟨_,rfl,?_⟩;have n0_:=Aside0.mk (KeepBut.trans q17_ hk (.inl rfl));have n1_:=Aside0.mk (hb);have n2_:=Aside0.mk (hi);clear HK;clear HB;clear HI0;have HK:=n0_;have HB:=n1_;have HI0:=n2_;clear n0_ n1_ n2_;(try clear hb);(try clear hk);(try clear hi)) | ((with_reducible refine gate_callee (f:=17) rfl ?_);refine goesL_ (some 8) rfl rfl Try.func17 (by kernel_rfl) rfl #[.string t177] rfl q18_ ?_;(with_reducible refine (spec_Compiled.calls k t177 t179 true _ A3.out).mono ?_);rintro e w21 ⟨v181,rfl,ho0,hb⟩;refine ⟨_,rfl,?_⟩;have n0_:=Aside0.mk (Kd.R_lower ho0 (keep_size (w:=w) (g:=g) (row:=none) q17_));have n1_:=Aside0.mk (IsS40.below q16_ hb);have n2_:=Aside0.mk (KeepBut.trans q17_ (KeepBut.of_below hb g none) (.inl rfl));have n3_:=Aside0.mk (below_step q7_ hb);clear HI0;clear HK;clear HB;have HO182:=n0_;have HI0:=n1_;have HK:=n2_;have HB:=n3_;clear n0_ n1_ n2_ n3_;(try clear hb);(try clear ho0)) | ((with_reducible refine gate_callee (f:=19) rfl ?_);refine goesL_ (some 16) rfl rfl Try.func19 (by kernel_rfl) rfl #[.pointer (some ⟨g,0,none⟩),.int .i64 20] rfl q18_ ?_;(with_reducible refine (spec_l1Rd_once.calls g s0_0 t178 20 false t187 w0 _ ?side1 ?side2 A5.out).mono ?_);(case side1 => exact q59_);(case side2 => exact q48_);rintro e w22 ⟨rfl,hi,hb,hk⟩;refine ⟨_,rfl,?_⟩;have n0_:=Aside0.mk (Kd.R_mono (Kd.R_keep (IsS40.apart (show IsS40 w0 _ g s0_0 t178 from by repeat (first | (with_reducible first | exact HI0.out | apply IsS40.alloc | apply IsS40.drewN | apply IsS40.drew | apply IsS40.set_1) | exact HI0.out)) q28_ (by decide)) hk (fun _ h => h.2)) (fun _ h => h.1));have n1_:=Aside0.mk (KeepBut.trans q17_ hk (.inl rfl));have n2_:=Aside0.mk (hb);have n3_:=Aside0.mk (hi);clear HO182;clear HK;clear HB;clear HI0;have HO182:=n0_;have HK:=n1_;have HB:=n2_;have HI0:=n3_;clear n0_ n1_ n2_ n3_;(try clear hb);(try clear hk);(try clear hi)))
  go_ret
  exact ⟨_,q21_,q28_,q16_,q7_,q17_⟩
 replace c4:=Bool.eq_false_iff.mpr c4
 subst c4
 rewrite [if_neg (show ¬ (false = true) by decide)] at H
 obtain ⟨y183,hy183⟩:∃ y_:List (S45),y_ = (([(⟨1,5,(⟨#[]⟩:ByteArray)⟩:S45)]:List (S45))):=⟨_,rfl⟩
 replace H:(some (y183,t178)) = some (r1,r2):=by first | (rw [hy183];exact H) | exact H
 have Ny183:=Aside0.mk hy183
 clear hy183
 simp only [Option.some.injEq,Prod.mk.injEq] at H
 obtain ⟨rfl,rfl⟩:=H
 go_enter Try.func10,Try.ntmps10
 go_wp2_with (first | ((with_reducible refine gate_callee (f:=18) rfl ?_);refine goesL_ (some 7) rfl rfl Try.func18 (by kernel_rfl) rfl #[.pointer (some ⟨g,0,none⟩),.int .i64 1] rfl q18_ ?_;(with_reducible refine (spec_l1Rd_infix.calls k g s0_0 s0_1 1 t177 t178 w0 _ ?side1 ?side2 A2.out).mono ?_);(case side1 => exact q59_);(case side2 => exact q48_);rintro e w23 ⟨rfl,hi,hb,hk⟩;refine ⟨_,rfl,?_⟩;have n0_:=Aside0.mk (KeepBut.trans q17_ hk (.inl rfl));have n1_:=Aside0.mk (hb);have n2_:=Aside0.mk (hi);clear HK;clear HB;clear HI0;have HK:=n0_;have HB:=n1_;have HI0:=n2_;clear n0_ n1_ n2_;(try clear hb);(try clear hk);(try clear hi)) | ((with_reducible refine gate_callee (f:=17) rfl ?_);refine goesL_ (some 8) rfl rfl Try.func17 (by kernel_rfl) rfl #[.string t177] rfl q18_ ?_;(with_reducible refine (spec_Compiled.calls k t177 t179 false _ A3.out).mono ?_);rintro e w24 ⟨v181,rfl,ho0,hb⟩;refine ⟨_,rfl,?_⟩;have n0_:=Aside0.mk (Kd.R_lower ho0 (keep_size (w:=w) (g:=g) (row:=none) q17_));have n1_:=Aside0.mk (IsS40.below q16_ hb);have n2_:=Aside0.mk (KeepBut.trans q17_ (KeepBut.of_below hb g none) (.inl rfl));have n3_:=Aside0.mk (below_step q7_ hb);clear HI0;clear HK;clear HB;have HO182:=n0_;have HI0:=n1_;have HK:=n2_;have HB:=n3_;clear n0_ n1_ n2_ n3_;(try clear hb);(try clear ho0)) | ((with_reducible refine gate_dst (N:=14) rfl ?_);refine Kd.R_lit k45 _ 45 ?hg (N:=14) ?hd (xs:=([(⟨1,5,(⟨#[]⟩:ByteArray)⟩:S45)]:List (S45))) (inner:=[.int .i64 1,.int .i64 5,.string (⟨#[]⟩:ByteArray)]) (ok:=fun _ => True) (okp:=fun _ => True) ?hr ?hp (fun _ hk => hk) trivial (Below.refl _ _) (Nat.le_refl _) (by simp) ?_;(case hd => rfl);(case hg => rfl);(case hr => exact q62_);(case hp => exact (Reps.c3 (show Kd.M k45 _ _ _ (⟨1,5,(⟨#[]⟩:ByteArray)⟩:S45) [.int .i64 1,.int .i64 5,.string (⟨#[]⟩:ByteArray)] from (k45_mkM _ _ _ (⟨1,5,(⟨#[]⟩:ByteArray)⟩:S45) )) (Reps.none _ _)));intro v184 w25 ho26 hb hg_ hnew_;clear hg_ hnew_;(first | rw [← Ny183.out] at ho26 | (simp only [Int.reduceToNat] at ho26;rw [← Ny183.out] at ho26));have n0_:=Aside0.mk (Kd.R_elder' q28_ (Kd.R_base ho26) hb);have n1_:=Aside0.mk (Kd.R_lower (Kd.R_new' ho26 (Kd.R_lt q28_)) (keep_size (w:=w) (g:=g) (row:=none) q17_));have n2_:=Aside0.mk (IsS40.below q16_ hb);have n3_:=Aside0.mk (KeepBut.trans q17_ (KeepBut.of_below hb g none) (.inl rfl));have n4_:=Aside0.mk (below_step q7_ hb);clear HO182;clear HI0;clear HK;clear HB;have HO182:=n0_;have HO185:=n1_;have HI0:=n2_;have HK:=n3_;have HB:=n4_;clear n0_ n1_ n2_ n3_ n4_;clear hb ho26))
 go_ret
 exact ⟨_,q21_,by (with_reducible repeat (first | apply Kd.R_alloc | apply Kd.R_drewN | apply Kd.R_drew));exact Kd.R_mono HO185.out (fun _ hk => trivial),q16_,q7_,q17_⟩
def spec_l1Rd_syms.l0:Nat → List (S33) → List ByteArray → Int → List Int → Int → Option ((List (S33)) × Int)
 | 0,_,_,_,_,_ => none
 | k + 1,x3,x4,x5,x1000,x1001 => if x5 < (x4.length:Int) then ((spec_l1Rd_once.f x1000 x1001 4).bind fun bt199 => (if bt199.1 = true then (spec_l1Rd_syms.l0 k x3 x4 (wrap64 (x5 + 1)) x1000 bt199.2) else (if 0 ≤ x5 then ((spec_l1Rd_below.f x1000 bt199.2 4).bind fun bt202 => ((spec_l1Rd_below.f x1000 bt202.2 600).bind fun bt204 => (if x3.length < 4398046511104 then (spec_l1Rd_syms.l0 k (x3 ++ [(⟨rdOf ByteArray.empty x4 x5,bt202.1,wrap64 (bt204.1 - 20)⟩:S33)]) x4 (wrap64 (x5 + 1)) x1000 bt204.2) else (none)))) else (none)))) else (some (x3,x1001))
def spec_l1Rd_syms.f (k:Nat) (s0_0:List Int) (s0_1:Int):Option ((List (S33)) × Int):=spec_l1Rd_syms.l0 k (([]:List (S33))) (([(⟨#[97,49]⟩:ByteArray),(⟨#[108,111,111,112]⟩:ByteArray),(⟨#[120,46,121]⟩:ByteArray),(⟨#[101,110,100,95]⟩:ByteArray)]:List ByteArray)) 0 s0_0 s0_1
theorem spec_l1Rd_syms.mono_l:∀ k,(∀ y0 y1 y2 y3 y4,LeO (spec_l1Rd_syms.l0 k y0 y1 y2 y3 y4) (spec_l1Rd_syms.l0 (k + 1) y0 y1 y2 y3 y4))
 | 0 => fun _ _ _ _ _ r h => by simp [spec_l1Rd_syms.l0] at h
 | k + 1 => by
  have ih0:=spec_l1Rd_syms.mono_l k
  intro y0 y1 y2 y3 y4
  unfold spec_l1Rd_syms.l0
  repeat' first
  | (with_reducible first | exact ih0 _ _ _ _ _ | exact LeO.refl _ | exact LeO.none _ | refine LeO.ite ?_ ?_ | refine LeO.bind ?_ (fun _ => ?_))
  | exact ih0 _ _ _ _ _
  | exact LeO.none _
  | refine LeO.ite ?_ ?_
  | refine LeO.bind ?_ (fun _ => ?_)
theorem spec_l1Rd_syms.mono:∀ a0 a1 k,LeO (spec_l1Rd_syms.f k a0 a1) (spec_l1Rd_syms.f (k + 1) a0 a1):=by
 intro a0 a1 k
 have ih0:=spec_l1Rd_syms.mono_l k
 unfold spec_l1Rd_syms.f
 repeat' first
   | (with_reducible first | exact ih0 _ _ _ _ _ | exact LeO.refl _ | exact LeO.none _ | refine LeO.ite ?_ ?_ | refine LeO.bind ?_ (fun _ => ?_))
   | exact ih0 _ _ _ _ _
   | exact LeO.none _
   | refine LeO.ite ?_ ?_
   | refine LeO.bind ?_ (fun _ => ?_)
def spec_l1Rd_syms.T7:Bool × List (List Nat × List Nat):=(true,[([],[]),([],[]),([],[]),([1,2],[1,2]),([3],[3]),([],[]),([5],[5]),([],[]),([7,6],[7]),([8],[8]),([4,6,9],[4,6,9]),([10],[10]),([0,11,8],[0,11]),([12,12,0,1,2,3,4,5,6,7,8,9,10,11,12],[0,12])])
def spec_l1Rd_syms.B7:List Nat:=[0,0,0,6,14,0,32,0,224,480,1022,2046,4095,8191]
theorem spec_l1Rd_syms.tab7:rtab .any (opsOf Try.f11 7) = spec_l1Rd_syms.T7:=by kernel_rfl
theorem spec_l1Rd_syms.bits7:waitsOk spec_l1Rd_syms.T7.2 spec_l1Rd_syms.B7 = true:=by kernel_rfl
theorem spec_l1Rd_syms.calls (k:Nat) (g:Nat) (s0_0:List Int) (s0_1:Int) (r1:List (S33)) (r2:Int) (w0 w:World) (hI:IsS40 w0 w g s0_0 s0_1) (hB:Below w0.heap.size w0 w) (h:spec_l1Rd_syms.f k s0_0 s0_1 = some (r1,r2)) :
  Calls Try.prog 11 #[.pointer (some ⟨g,0,none⟩)] w fun e w' => ∃ v0_:Value,e = .returned (v0_) ∧ Kd.R k33 33 w' w.heap.size (fun _ => True) v0_ r1 ∧ IsS40 w0 w' g s0_0 r2 ∧ Below w0.heap.size w0 w' ∧ KeepBut w w' g none:=by
 have hu33:=Try.underlying33
 have HI0:=Aside0.mk hI
 have HK:=Aside0.mk (KeepBut.refl w g none)
 have HL:=Aside0.mk hB.size
 clear hI
 have HW0:=Aside0.mk hB.size
 have HB:=Aside0.mk hB
 clear hB
 have H:=h;unfold spec_l1Rd_syms.f at H
 clear h
 obtain ⟨y193,hy193⟩:∃ y_:List (S33),y_ = (([]:List (S33))):=⟨_,rfl⟩
 replace H:(spec_l1Rd_syms.l0 k y193 (([(⟨#[97,49]⟩:ByteArray),(⟨#[108,111,111,112]⟩:ByteArray),(⟨#[120,46,121]⟩:ByteArray),(⟨#[101,110,100,95]⟩:ByteArray)]:List ByteArray)) 0 s0_0 s0_1) = some (r1,r2):=by first | (rw [hy193];exact H) | exact H
 have Ny193:=Aside0.mk hy193
 clear hy193
 obtain ⟨y196,hy196⟩:∃ y_:List ByteArray,y_ = (([(⟨#[97,49]⟩:ByteArray),(⟨#[108,111,111,112]⟩:ByteArray),(⟨#[120,46,121]⟩:ByteArray),(⟨#[101,110,100,95]⟩:ByteArray)]:List ByteArray)):=⟨_,rfl⟩
 replace H:(spec_l1Rd_syms.l0 k y193 y196 0 s0_0 s0_1) = some (r1,r2):=by first | (rw [hy196];exact H) | exact H
 have Ny196:=Aside0.mk hy196
 clear hy196
 have H':=Aside0.mk H
 clear H
 go_enter Try.func11,Try.ntmps11
 go_wp2_with (first | ((with_reducible refine gate_dst (N:=6) rfl ?_);refine Kd.R_lit k33 _ 33 ?hg (N:=6) ?hd (xs:=([]:List (S33))) (inner:=[]) (ok:=fun _ => True) (okp:=fun _ => True) ?hr ?hp (fun _ hk => hk) trivial (Below.refl _ _) (Nat.le_refl _) (by simp) ?_;(case hd => rfl);(case hg => rfl);(case hr => exact q62_);(case hp => exact (Reps.none _ _));intro v194 w2 ho3 hb hg_ hnew_;clear hg_ hnew_;(first | rw [← Ny193.out] at ho3 | (simp only [Int.reduceToNat] at ho3;rw [← Ny193.out] at ho3));have n0_:=Aside0.mk (Kd.R_lower ho3 (keep_size (w:=w) (g:=g) (row:=none) q17_));have n1_:=Aside0.mk (IsS40.below q16_ hb);have n2_:=Aside0.mk (KeepBut.trans q17_ (KeepBut.of_below hb g none) (.inl rfl));have n3_:=Aside0.mk (below_step q7_ hb);clear HI0;clear HK;clear HB;have HO195:=n0_;have HI0:=n1_;have HK:=n2_;have HB:=n3_;clear n0_ n1_ n2_ n3_;clear hb ho3) | ((with_reducible refine gate_dst (N:=7) rfl ?_);refine Kd.R_lit Kd.string _ 9 ?hg (N:=7) ?hd (xs:=([(⟨#[97,49]⟩:ByteArray),(⟨#[108,111,111,112]⟩:ByteArray),(⟨#[120,46,121]⟩:ByteArray),(⟨#[101,110,100,95]⟩:ByteArray)]:List ByteArray)) (inner:=[.string (⟨#[97,49]⟩:ByteArray),.string (⟨#[108,111,111,112]⟩:ByteArray),.string (⟨#[120,46,121]⟩:ByteArray),.string (⟨#[101,110,100,95]⟩:ByteArray)]) (ok:=fun _ => True) (okp:=fun _ => True) ?hr ?hp (fun _ hk => hk) trivial (Below.refl _ _) (Nat.le_refl _) (by simp) ?_;(case hd => rfl);(case hg => rfl);(case hr => exact q62_);(case hp => exact q45_);intro v197 w4 ho5 hb hg_ hnew_;clear hg_ hnew_;(first | rw [← Ny196.out] at ho5 | (simp only [Int.reduceToNat] at ho5;rw [← Ny196.out] at ho5));have n0_:=Aside0.mk (Kd.R_below (by (with_reducible repeat (first | apply Kd.R_alloc | apply Kd.R_drewN | apply Kd.R_drew));exact HO195.out) hb);have n1_:=Aside0.mk (Kd.R_lower ho5 (keep_size (w:=w) (g:=g) (row:=none) q17_));have n2_:=Aside0.mk (IsS40.below q16_ hb);have n3_:=Aside0.mk (KeepBut.trans q17_ (KeepBut.of_below hb g none) (.inl rfl));have n4_:=Aside0.mk (below_step q7_ hb);clear HO195;clear HI0;clear HK;clear HB;have HO195:=n0_;have HO198:=n1_;have HI0:=n2_;have HK:=n3_;have HB:=n4_;clear n0_ n1_ n2_ n3_ n4_;clear hb ho5))
 go_loopg [3,5] k (fun kq v3 v5 w' => ∃ (x3_1:List (S33)) (x5_1:Int) (x1001_1:Int),v5 = .int .i64 x5_1 ∧ Aside0 (spec_l1Rd_syms.l0 kq x3_1 y196 x5_1 s0_0 x1001_1 = some (r1,r2)) ∧ Aside0 (kq ≤ k) ∧ Aside0 (Kd.R k33 33 w' w.heap.size (fun _ => True) v3 x3_1) ∧ Aside0 (Kd.R Kd.string 9 w' w.heap.size (fun _ => True) v197 y196) ∧ Aside0 (IsS40 w0 w' g s0_0 x1001_1) ∧ Aside0 (KeepBut w w' g none) ∧ Aside0 (Below w0.heap.size w0 w'))
 case atStart => exact ⟨(y193),(0),(s0_1),q25_,H',⟨Nat.le_refl _⟩,⟨by (with_reducible repeat (first | apply Kd.R_alloc | apply Kd.R_drewN | apply Kd.R_drew));exact HO195.out⟩,⟨by (with_reducible repeat (first | apply Kd.R_alloc | apply Kd.R_drewN | apply Kd.R_drew));exact HO198.out⟩,⟨q16_⟩,⟨q17_⟩,⟨q7_⟩⟩
 clear H'
 try clear c1
 try clear p2
 obtain ⟨x3_1,x5_1,x1001_1,rfl,HA,HK1,HO_3,HO_4,HI0,HK,HB⟩:=hrel
 cases gk with
 | zero => exact absurd HA.out (by simp [spec_l1Rd_syms.l0])
 | succ k1 =>
  have H:=HA.out
  clear HA
  simp only [spec_l1Rd_syms.l0] at H
  by_cases c6:x5_1 < (y196.length:Int)
  ·rw [if_pos c6] at H
   have c6b0:=decide_eq_true c6
   clear c6
   replace H:=Option.bind_eq_some_iff.mp H
   obtain ⟨⟨t199,t200⟩,A70,H⟩:=H
   try dsimp -simprocs -eta only at H
   have A7:=Aside0.mk A70
   clear A70
   by_cases c8:t199 = true
   ·subst c8
    rewrite [if_pos rfl] at H
    have H':=Aside0.mk H
    clear H
    obtain ⟨Ao9,co9,eo9⟩:=Kd.R_slice HO_4.out
    subst eo9
    go_wp2_with (first | ((with_reducible refine gate_callee (f:=19) rfl ?_);refine goesL_ (some 15) rfl rfl Try.func19 (by kernel_rfl) rfl #[.pointer (some ⟨g,0,none⟩),.int .i64 4] rfl q18_ ?_;(with_reducible refine (spec_l1Rd_once.calls g s0_0 x1001_1 4 true t200 w0 _ ?side1 ?side2 A7.out).mono ?_);(case side1 => exact q59_);(case side2 => exact q48_);rintro e w10 ⟨rfl,hi,hb,hk⟩;refine ⟨_,rfl,?_⟩;have n0_:=Aside0.mk (Kd.R_mono (Kd.R_keep (IsS40.apart (show IsS40 w0 _ g s0_0 x1001_1 from by repeat (first | (with_reducible first | exact HI0.out | apply IsS40.alloc | apply IsS40.drewN | apply IsS40.drew | apply IsS40.set_1) | exact HI0.out)) q35_ (by decide)) hk (fun _ h => h.2)) (fun _ h => h.1));have n1_:=Aside0.mk (Kd.R_mono (Kd.R_keep (IsS40.apart (show IsS40 w0 _ g s0_0 x1001_1 from by repeat (first | (with_reducible first | exact HI0.out | apply IsS40.alloc | apply IsS40.drewN | apply IsS40.drew | apply IsS40.set_1) | exact HI0.out)) q36_ (by decide)) hk (fun _ h => h.2)) (fun _ h => h.1));have n2_:=Aside0.mk (KeepBut.trans q17_ hk (.inl rfl));have n3_:=Aside0.mk (hb);have n4_:=Aside0.mk (hi);clear HO_3;clear HO_4;clear HK;clear HB;clear HI0;have HO_3:=n0_;have HO_4:=n1_;have HK:=n2_;have HB:=n3_;have HI0:=n4_;clear n0_ n1_ n2_ n3_ n4_;(try clear hb);(try clear hk);(try clear hi)))
    go_roundg k1
    case measure => have:=HK1.out;omega
    case rel => exact ⟨(x3_1),(wrap64 (x5_1 + 1)),(t200),q25_,H',⟨by have:=HK1.out;omega⟩,⟨q35_⟩,⟨q36_⟩,⟨q16_⟩,⟨q17_⟩,⟨q7_⟩⟩
   replace c8:=Bool.eq_false_iff.mpr c8
   subst c8
   rewrite [if_neg (show ¬ (false = true) by decide)] at H
   by_cases c11:0 ≤ x5_1
   rotate_left
   ·rw [if_neg c11] at H
    exact absurd H (by simp)
   rw [if_pos c11] at H
   have c11b0:=decide_eq_true c11
   clear c11
   replace H:=Option.bind_eq_some_iff.mp H
   obtain ⟨⟨t202,t203⟩,A120,H⟩:=H
   try dsimp -simprocs -eta only at H
   have A12:=Aside0.mk A120
   clear A120
   replace H:=Option.bind_eq_some_iff.mp H
   obtain ⟨⟨t204,t205⟩,A130,H⟩:=H
   try dsimp -simprocs -eta only at H
   have A13:=Aside0.mk A130
   clear A130
   by_cases c14:x3_1.length < 4398046511104
   rotate_left
   ·rw [if_neg c14] at H
    exact absurd H (by simp)
   rw [if_pos c14] at H
   have LMc14:=Aside0.mk c14
   clear c14
   obtain ⟨y206,hy206⟩:∃ y_:List (S33),y_ = (x3_1 ++ [(⟨rdOf ByteArray.empty y196 x5_1,t202,wrap64 (t204 - 20)⟩:S33)]):=⟨_,rfl⟩
   replace H:(spec_l1Rd_syms.l0 k1 y206 y196 (wrap64 (x5_1 + 1)) s0_0 t205) = some (r1,r2):=by first | (rw [hy206];exact H) | exact H
   have Ny206:=Aside0.mk hy206
   clear hy206
   have H':=Aside0.mk H
   clear H
   obtain ⟨Ao15,co15,eo15⟩:=Kd.R_slice HO_4.out
   subst eo15
   try go_wp2_with (first | ((with_reducible refine gate_callee (f:=19) rfl ?_);refine goesL_ (some 15) rfl rfl Try.func19 (by kernel_rfl) rfl #[.pointer (some ⟨g,0,none⟩),.int .i64 4] rfl q18_ ?_;(with_reducible refine (spec_l1Rd_once.calls g s0_0 x1001_1 4 false t200 w0 _ ?side1 ?side2 A7.out).mono ?_);(case side1 => exact q59_);(case side2 => exact q48_);rintro e w16 ⟨rfl,hi,hb,hk⟩;refine ⟨_,rfl,?_⟩;have n0_:=Aside0.mk (Kd.R_mono (Kd.R_keep (IsS40.apart (show IsS40 w0 _ g s0_0 x1001_1 from by repeat (first | (with_reducible first | exact HI0.out | apply IsS40.alloc | apply IsS40.drewN | apply IsS40.drew | apply IsS40.set_1) | exact HI0.out)) q35_ (by decide)) hk (fun _ h => h.2)) (fun _ h => h.1));have n1_:=Aside0.mk (Kd.R_mono (Kd.R_keep (IsS40.apart (show IsS40 w0 _ g s0_0 x1001_1 from by repeat (first | (with_reducible first | exact HI0.out | apply IsS40.alloc | apply IsS40.drewN | apply IsS40.drew | apply IsS40.set_1) | exact HI0.out)) q36_ (by decide)) hk (fun _ h => h.2)) (fun _ h => h.1));have n2_:=Aside0.mk (KeepBut.trans q17_ hk (.inl rfl));have n3_:=Aside0.mk (hb);have n4_:=Aside0.mk (hi);clear HO_3;clear HO_4;clear HK;clear HB;clear HI0;have HO_3:=n0_;have HO_4:=n1_;have HK:=n2_;have HB:=n3_;have HI0:=n4_;clear n0_ n1_ n2_ n3_ n4_;(try clear hb);(try clear hk);(try clear hi)))
   have n0_:=Aside0.mk (Kd.R_drew HO_3.out)
   have n1_:=Aside0.mk (Kd.R_drew HO_4.out)
   have n2_:=Aside0.mk (IsS40.drew HI0.out)
   have n3_:=Aside0.mk (keep_drew HK.out)
   have n4_:=Aside0.mk (below_drew1 HB.out)
   clear HO_3
   clear HO_4
   clear HI0
   clear HK
   clear HB
   have HO_3:=n0_
   have HO_4:=n1_
   have HI0:=n2_
   have HK:=n3_
   have HB:=n4_
   clear n0_ n1_ n2_ n3_ n4_
   have p201:0 ≤ (x5_1:Int):=of_decide_eq_true q42_
   have q201:x5_1 < (y196.length:Int):=of_decide_eq_true q42_
   obtain ⟨ad201,e201,hx201_0⟩:=Kd.at_string (Kd.R_reads' HO_4.out).2.2 x5_1 p201 q201
   cases e201
   replace p201:=eq_true p201
   replace q201:=eq_true q201
   refine start_ (n:=14) (S:=fun w' => w'.cell? (ad201.add (x5_1).toNat) = some (.string (rdOf ByteArray.empty y196 x5_1))) (ds:=[11,12]) #[false,false,false,false,false,false,false,false,false,false,false,false,false,false] (by kernel_rfl) rfl rfl (hx201_0) (fun hHeld => ?_);refine with_tabW spec_l1Rd_syms.tab7 spec_l1Rd_syms.bits7 (fun HT_ HW_ => ?_)
   generalize w16.drew = w17 at HO_3 HO_4 HI0 HK HB hx201_0 hHeld ⊢
   refine pure_ (i:=0) (N:=some 17) (v:=?_) (a':=?_) #[true,false,false,false,false,false,false,false,false,false,false,false,false,false] rfl rfl (any_of HT_.out (by kernel_rfl)) (fun _ _ _ h => h) (Or.inl ⟨by rfl,?_⟩) ?_ ?_
   rotate_left
   ·intro w'
    go_simp
    with_reducible rfl
   rotate_left
   ·simp only [Act.put,List.setIfInBounds_toArray,List.set_cons_zero,List.set_cons_succ,i64_w,i32_w]
    rfl
   refine pure_ (i:=1) (N:=some 18) (v:=?_) (a':=?_) #[true,true,false,false,false,false,false,false,false,false,false,false,false,false] rfl rfl (any_of HT_.out (by kernel_rfl)) (fun _ _ _ h => h) (Or.inl ⟨by rfl,?_⟩) ?_ ?_
   rotate_left
   ·intro w'
    go_simp
    with_reducible rfl
   rotate_left
   ·simp only [Act.put,List.setIfInBounds_toArray,List.set_cons_zero,List.set_cons_succ,i64_w,i32_w]
    rfl
   refine pure_ (i:=2) (N:=some 19) (v:=?_) (a':=?_) #[true,true,true,false,false,false,false,false,false,false,false,false,false,false] rfl rfl (any_of HT_.out (by kernel_rfl)) (fun _ _ _ h => h) (Or.inl ⟨by rfl,?_⟩) ?_ ?_
   rotate_left
   ·intro w'
    go_simp
    with_reducible rfl
   rotate_left
   ·simp only [Act.put,List.setIfInBounds_toArray,List.set_cons_zero,List.set_cons_succ,i64_w,i32_w]
    rfl
   refine pure_ (i:=3) (N:=some 20) (v:=?_) (a':=?_) #[true,true,true,true,false,false,false,false,false,false,false,false,false,false] rfl rfl (any_of HT_.out (by kernel_rfl)) (fun _ _ _ h => h) (Or.inl ⟨by rfl,?_⟩) ?_ ?_
   rotate_left
   ·intro w'
    go_simp
    with_reducible rfl
   rotate_left
   ·simp only [Act.put,List.setIfInBounds_toArray,List.set_cons_zero,List.set_cons_succ,i64_w,i32_w]
    rfl
   refine pure_ (i:=5) (N:=some 22) (v:=?_) (a':=?_) #[true,true,true,true,false,true,false,false,false,false,false,false,false,false] rfl rfl (any_of HT_.out (by kernel_rfl)) (fun _ _ _ h => h) (Or.inl ⟨by rfl,?_⟩) ?_ ?_
   rotate_left
   ·intro w'
    go_simp
    with_reducible rfl
   rotate_left
   ·simp only [Act.put,List.setIfInBounds_toArray,List.set_cons_zero,List.set_cons_succ,i64_w,i32_w]
    rfl
   refine pure_ (i:=7) (N:=some 24) (v:=?_) (a':=?_) #[true,true,true,true,false,true,false,true,false,false,false,false,false,false] rfl rfl (any_of HT_.out (by kernel_rfl)) (fun _ _ _ h => h) (Or.inl ⟨by rfl,?_⟩) ?_ ?_
   rotate_left
   ·intro w'
    go_simp
    with_reducible rfl
   rotate_left
   ·simp only [Act.put,List.setIfInBounds_toArray,List.set_cons_zero,List.set_cons_succ,i64_w,i32_w]
    rfl
   refine take_ (i:=4) (N:=some 21) (v:=?_) (a':=?_) #[true,true,true,true,true,true,false,true,false,false,false,false,false,false] rfl rfl (take_ofW HT_.out HW_.out (by kernel_rfl)) (fun _ _ _ h => h) (Or.inl ⟨by rfl,?_⟩) hHeld ?_ ?_
   rotate_left
   ·intro w' s0
    go_simp
    with_reducible rfl
   rotate_left
   ·simp only [Act.put,List.setIfInBounds_toArray,List.set_cons_zero,List.set_cons_succ,i64_w,i32_w]
    rfl
   refine one_ (i:=6) (N:=some 23) #[true,true,true,true,true,true,true,true,false,false,false,false,false,false] rfl rfl (one_of HT_.out (by kernel_rfl)) (by decide) (fun K hK => ?_)
   refine goes_ Try.func21 (by kernel_rfl) rfl #[.pointer (some ⟨g,0,none⟩),.int .i64 4] (by rfl) rfl rfl q18_ ?_
   with_reducible refine (spec_l1Rd_below.calls g s0_0 t200 4 t202 t203 w0 _ ?side1 ?side2 A12.out).mono ?_
   (case side1 => exact q59_)
   (case side2 => exact q48_)
   rintro e w18 ⟨rfl,hi,hb,hk⟩
   have HS0_:=keep_cell hk (hHeld) q4_
   refine ⟨_,rfl,?_⟩
   have n0_:=Aside0.mk (Kd.R_mono (Kd.R_keep (IsS40.apart (show IsS40 w0 _ g s0_0 t200 from by repeat (first | (with_reducible first | exact HI0.out | apply IsS40.alloc | apply IsS40.drewN | apply IsS40.drew | apply IsS40.set_1) | exact HI0.out)) q35_ (by decide)) hk (fun _ h => h.2)) (fun _ h => h.1))
   have n1_:=Aside0.mk (Kd.R_mono (Kd.R_keep (IsS40.apart (show IsS40 w0 _ g s0_0 t200 from by repeat (first | (with_reducible first | exact HI0.out | apply IsS40.alloc | apply IsS40.drewN | apply IsS40.drew | apply IsS40.set_1) | exact HI0.out)) q36_ (by decide)) hk (fun _ h => h.2)) (fun _ h => h.1))
   have n2_:=Aside0.mk (KeepBut.trans q17_ hk (.inl rfl))
   have n3_:=Aside0.mk (hb)
   have n4_:=Aside0.mk (hi)
   clear HO_3
   clear HO_4
   clear HK
   clear HB
   clear HI0
   have HO_3:=n0_
   have HO_4:=n1_
   have HK:=n2_
   have HB:=n3_
   have HI0:=n4_
   clear n0_ n1_ n2_ n3_ n4_
   (try clear hb)
   (try clear hb2)
   (try clear hk)
   (try clear hi)
   refine hK.out _ _ (HS0_) (fun hHeld => ?_)
   clear hK K
   refine norm_ (a':=?_) ?_ ?_
   rotate_left
   ·show Act.put _ (some 23) _ = _
    simp only [Act.put,List.setIfInBounds_toArray,List.set_cons_zero,List.set_cons_succ,i64_w,i32_w]
    rfl
   refine one_ (i:=8) (N:=some 25) #[true,true,true,true,true,true,true,true,true,false,false,false,false,false] rfl rfl (one_of HT_.out (by kernel_rfl)) (by decide) (fun K hK => ?_)
   refine goes_ Try.func21 (by kernel_rfl) rfl #[.pointer (some ⟨g,0,none⟩),.int .i64 600] (by rfl) rfl rfl q18_ ?_
   with_reducible refine (spec_l1Rd_below.calls g s0_0 t203 600 t204 t205 w0 _ ?side1 ?side2 A13.out).mono ?_
   (case side1 => exact q59_)
   (case side2 => exact q48_)
   rintro e w19 ⟨rfl,hi,hb,hk⟩
   have HS0_:=keep_cell hk (hHeld) q4_
   refine ⟨_,rfl,?_⟩
   have n0_:=Aside0.mk (Kd.R_mono (Kd.R_keep (IsS40.apart (show IsS40 w0 _ g s0_0 t203 from by repeat (first | (with_reducible first | exact HI0.out | apply IsS40.alloc | apply IsS40.drewN | apply IsS40.drew | apply IsS40.set_1) | exact HI0.out)) q35_ (by decide)) hk (fun _ h => h.2)) (fun _ h => h.1))
   have n1_:=Aside0.mk (Kd.R_mono (Kd.R_keep (IsS40.apart (show IsS40 w0 _ g s0_0 t203 from by repeat (first | (with_reducible first | exact HI0.out | apply IsS40.alloc | apply IsS40.drewN | apply IsS40.drew | apply IsS40.set_1) | exact HI0.out)) q36_ (by decide)) hk (fun _ h => h.2)) (fun _ h => h.1))
   have n2_:=Aside0.mk (KeepBut.trans q17_ hk (.inl rfl))
   have n3_:=Aside0.mk (hb)
   have n4_:=Aside0.mk (hi)
   clear HO_3
   clear HO_4
   clear HK
   clear HB
   clear HI0
   have HO_3:=n0_
   have HO_4:=n1_
   have HK:=n2_
   have HB:=n3_
   have HI0:=n4_
   clear n0_ n1_ n2_ n3_ n4_
   (try clear hb)
   (try clear hb2)
   (try clear hk)
   (try clear hi)
   refine hK.out _ _ (HS0_) (fun hHeld => ?_)
   clear hK K
   refine norm_ (a':=?_) ?_ ?_
   rotate_left
   ·show Act.put _ (some 25) _ = _
    simp only [Act.put,List.setIfInBounds_toArray,List.set_cons_zero,List.set_cons_succ,i64_w,i32_w]
    rfl
   refine pure_ (i:=9) (N:=some 26) (v:=?_) (a':=?_) #[true,true,true,true,true,true,true,true,true,true,false,false,false,false] rfl rfl (any_of HT_.out (by kernel_rfl)) (fun _ _ _ h => h) (Or.inl ⟨by rfl,?_⟩) ?_ ?_
   rotate_left
   ·intro w'
    go_simp
    with_reducible rfl
   rotate_left
   ·simp only [Act.put,List.setIfInBounds_toArray,List.set_cons_zero,List.set_cons_succ,i64_w,i32_w]
    rfl
   refine pure_ (i:=10) (N:=some 27) (v:=?_) (a':=?_) #[true,true,true,true,true,true,true,true,true,true,true,false,false,false] rfl rfl (any_of HT_.out (by kernel_rfl)) (fun _ _ _ h => h) (Or.inl ⟨by rfl,?_⟩) ?_ ?_
   rotate_left
   ·intro w'
    go_simp
    with_reducible rfl
   rotate_left
   ·simp only [Act.put,List.setIfInBounds_toArray,List.set_cons_zero,List.set_cons_succ,i64_w,i32_w]
    rfl
   refine last_ (i:=11) (N:=some 28) #[true,true,true,true,true,true,true,true,true,true,true,true,false,false] rfl rfl (one_of HT_.out (by kernel_rfl)) (by decide) (fun K hK => ?_)
   refine value_ (w1:=?_) (v:=?_) (by rfl) rfl ?_ ?_
   rotate_left 2
   ·go_simp
    constructor
    ·rfl
    rfl
   refine hK.out _ _ ?_
   clear hK K
   refine norm_ (a':=?_) ?_ ?_
   rotate_left
   ·show Act.put _ (some 28) _ = _
    simp only [Act.put,List.setIfInBounds_toArray,List.set_cons_zero,List.set_cons_succ,i64_w,i32_w]
    rfl
   refine last_ (i:=12) (N:=some 29) #[true,true,true,true,true,true,true,true,true,true,true,true,true,false] rfl rfl (one_of HT_.out (by kernel_rfl)) (by decide) (fun K hK => ?_)
   refine Kd.R_append_step k33 w.heap.size (by rfl) (.tmp 17) (.tmp 28) 25 33 (.agg #[(.string ⟨#[]⟩),(.int .i64 0),(.int .i64 0)]) 32 rfl Try.underlying25 info33 rfl (by decide) (by omega) u3 x3_1 (⟨rdOf ByteArray.empty y196 x5_1,t202,wrap64 (t204 - 20)⟩:S33) [.string (rdOf ByteArray.empty y196 x5_1),.int .i64 t202,.int .i64 (wrap64 (t204 - 20))] (fun _ => True) (fun _ => False) rfl rfl ?aP (fun _ hk => hk.elim) ?aF ?aO (Below.refl _ _) ?aS ?aL ?_
   (case aP => exact k33_mkM _ _ _ (⟨rdOf ByteArray.empty y196 x5_1,t202,wrap64 (t204 - 20)⟩:S33))
   (case aF => exact (fun _ _ => trivial))
   (case aO => exact q35_)
   (case aS => exact (keep_size (w:=w) (g:=g) (row:=none) q17_))
   (case aL => have:=LMc14.out;omega)
   intro v207 w20 ho hb hg hat
   rw [← Ny206.out] at ho
   have n0_:=Aside0.mk (Kd.R_over' q36_ (Kd.R_typed q35_) (by decide) hg)
   have n1_:=Aside0.mk (IsS40.grown q16_ hg (IsS40.own_ne HI0.out HO_3.out (by decide)))
   have n2_:=Aside0.mk (below_weaken q7_ HL.out hb)
   have n3_:=Aside0.mk (KeepBut.trans q17_ (KeepBut.of_grown hg g) (Kd.R_base2 HO_3.out))
   have n4_:=Aside0.mk (ho)
   clear HO_4
   clear HI0
   clear HB
   clear HK
   clear HO_3
   have HO_4:=n0_
   have HI0:=n1_
   have HB:=n2_
   have HK:=n3_
   have HO208:=n4_
   clear n0_ n1_ n2_ n3_ n4_
   clear ho hb hg hat
   refine hK.out _ _ ?_
   clear hK K
   refine norm_ (a':=?_) ?_ ?_
   rotate_left
   ·show Act.put _ (some 29) _ = _
    simp only [Act.put,List.setIfInBounds_toArray,List.set_cons_zero,List.set_cons_succ,i64_w,i32_w]
    rfl
   refine pure_ (i:=13) (N:=some 3) (v:=?_) (a':=?_) #[true,true,true,true,true,true,true,true,true,true,true,true,true,true] rfl rfl (any_of HT_.out (by kernel_rfl)) (fun _ _ _ h => h) (Or.inl ⟨by rfl,?_⟩) ?_ ?_
   rotate_left
   ·intro w'
    go_simp
    with_reducible rfl
   rotate_left
   ·simp only [Act.put,List.setIfInBounds_toArray,List.set_cons_zero,List.set_cons_succ,i64_w,i32_w]
    rfl
   refine done_ (done_of HT_.out (by kernel_rfl)) ?_
   try go_wp2
   go_roundg k1
   case measure => have:=HK1.out;omega
   case rel => exact ⟨(y206),(wrap64 (x5_1 + 1)),(t205),q25_,H',⟨by have:=HK1.out;omega⟩,⟨by (with_reducible repeat (first | apply Kd.R_alloc | apply Kd.R_drewN | apply Kd.R_drew));exact HO208.out⟩,⟨q36_⟩,⟨q16_⟩,⟨q17_⟩,⟨q7_⟩⟩
  rw [if_neg c6] at H
  have c6b0:=decide_eq_false c6
  clear c6
  simp only [Option.some.injEq,Prod.mk.injEq] at H
  obtain ⟨rfl,rfl⟩:=H
  obtain ⟨Ao21,co21,eo21⟩:=Kd.R_slice HO_4.out
  subst eo21
  go_wp2
  go_ret
  exact ⟨_,q21_,q35_,q16_,q7_,q17_⟩
def spec_DrawEvalExpr.f (k:Nat) (l0:List Int):Option ((List (S45)) × (List (S33))):=(spec_l1Open.f l0).bind fun bt209 => ((spec_l1Rd_expr.f k bt209.1 bt209.2).bind fun bt212 => ((spec_l1Rd_syms.f k bt209.1 bt212.2).bind fun bt216 => (some (bt212.1,bt216.1))))
theorem spec_DrawEvalExpr.mono:∀ a0 k,LeO (spec_DrawEvalExpr.f k a0) (spec_DrawEvalExpr.f (k + 1) a0):=by
 intro a0 k
 unfold spec_DrawEvalExpr.f
 repeat' first
   | (with_reducible first | exact spec_l1Rd_expr.mono _ _ _ | exact spec_l1Rd_syms.mono _ _ _ | exact LeO.refl _ | exact LeO.none _ | refine LeO.ite ?_ ?_ | refine LeO.bind ?_ (fun _ => ?_))
   | exact spec_l1Rd_expr.mono _ _ _
   | exact spec_l1Rd_syms.mono _ _ _
   | exact LeO.none _
   | refine LeO.ite ?_ ?_
   | refine LeO.bind ?_ (fun _ => ?_)
theorem spec_DrawEvalExpr.calls (k:Nat) (A0:Option Addr) (c0:Nat) (l0:List Int) (r1:List (S45)) (r2:List (S33)) (w:World) (hr0:Kd.C (Kd.int .u8) w A0 l0.length l0) (hc0:l0.length ≤ c0) (h:spec_DrawEvalExpr.f k l0 = some (r1,r2)) :
  Calls Try.prog 5 #[.slice A0 l0.length c0] w fun e w' => ∃ v0_ v1_:Value,e = .returned (.tuple #[v0_,v1_]) ∧ Kd.R k45 45 w' w.heap.size (fun _ => True) v0_ r1 ∧ Kd.R k33 33 w' w.heap.size (fun _ => True) v1_ r2 ∧ Below w.heap.size w w':=by
 have HR0:=Aside0.mk hr0
 have HC0:=Aside0.mk hc0
 clear hr0 hc0
 have HB:=Aside0.mk (Below.refl w.heap.size w)
 have H:=h;unfold spec_DrawEvalExpr.f at H
 clear h
 replace H:=Option.bind_eq_some_iff.mp H
 obtain ⟨⟨t209,t210⟩,A20,H⟩:=H
 try dsimp -simprocs -eta only at H
 have A2:=Aside0.mk A20
 clear A20
 replace H:=Option.bind_eq_some_iff.mp H
 obtain ⟨⟨t212,t215⟩,A30,H⟩:=H
 try dsimp -simprocs -eta only at H
 have A3:=Aside0.mk A30
 clear A30
 replace H:=Option.bind_eq_some_iff.mp H
 obtain ⟨⟨t216,t219⟩,A40,H⟩:=H
 try dsimp -simprocs -eta only at H
 have A4:=Aside0.mk A40
 clear A40
 simp only [Option.some.injEq,Prod.mk.injEq] at H
 obtain ⟨rfl,rfl⟩:=H
 go_enter Try.func5,Try.ntmps5
 go_wp2_with (first | ((with_reducible refine gate_callee (f:=9) rfl ?_);refine goesL_ (some 7) rfl rfl Try.func9 (by kernel_rfl) rfl #[.slice A0 l0.length c0] rfl q18_ ?_;(with_reducible refine (spec_l1Open.calls _ _ l0 t209 t210 w _ ?side1 ?side2 ?side3 A2.out).mono ?_);(case side1 => repeat (first | (with_reducible first | exact HB.out | apply below_alloc | apply pw_below_drewN | apply below_drew1) | exact HB.out));(case side2 => exact HR0.out);(case side3 => exact HC0.out);rintro e w5 ⟨g211,rfl,hi,hb,hb2⟩;refine ⟨_,rfl,?_⟩;have n0_:=Aside0.mk (hb);have n1_:=Aside0.mk (hi);clear HB;have HB:=n0_;have HI211:=n1_;clear n0_ n1_;(try clear hb);(try clear hb2);(try clear hi)) | ((with_reducible refine gate_callee (f:=10) rfl ?_);refine goesL_ (some 9) rfl rfl Try.func10 (by kernel_rfl) rfl #[.pointer (some ⟨g211,0,none⟩)] rfl q18_ ?_;(with_reducible refine (spec_l1Rd_expr.calls k g211 t209 t210 t212 t215 w _ ?side1 ?side2 A3.out).mono ?_);(case side1 => exact q57_);(case side2 => exact q47_);rintro e w6 ⟨v213,rfl,ho0,hi,hb,hk⟩;refine ⟨_,rfl,?_⟩;have n0_:=Aside0.mk (Kd.R_lower ho0 (below_size q6_));have n1_:=Aside0.mk (hb);have n2_:=Aside0.mk (hi);clear HB;clear HI211;have HO214:=n0_;have HB:=n1_;have HI211:=n2_;clear n0_ n1_ n2_;(try clear hb);(try clear hk);(try clear hi);(try clear ho0)) | ((with_reducible refine gate_callee (f:=11) rfl ?_);refine goesL_ (some 12) rfl rfl Try.func11 (by kernel_rfl) rfl #[.pointer (some ⟨g211,0,none⟩)] rfl q18_ ?_;(with_reducible refine (spec_l1Rd_syms.calls k g211 t209 t215 t216 t219 w _ ?side1 ?side2 A4.out).mono ?_);(case side1 => exact q57_);(case side2 => exact q47_);rintro e w7 ⟨v217,rfl,ho0,hi,hb,hk⟩;refine ⟨_,rfl,?_⟩;have n0_:=Aside0.mk (Kd.R_mono (Kd.R_keep (IsS40.apart (show IsS40 w _ g211 t209 t215 from by repeat (first | (with_reducible first | exact HI211.out | apply IsS40.alloc | apply IsS40.drewN | apply IsS40.drew | apply IsS40.set_1) | exact HI211.out)) (by (with_reducible repeat (first | apply Kd.R_alloc | apply Kd.R_drewN | apply Kd.R_drew));exact HO214.out) (by decide)) hk (fun _ h => h.2)) (fun _ h => h.1));have n1_:=Aside0.mk (Kd.R_lower ho0 (below_size q6_));have n2_:=Aside0.mk (hb);have n3_:=Aside0.mk (hi);clear HO214;clear HB;clear HI211;have HO214:=n0_;have HO218:=n1_;have HB:=n2_;have HI211:=n3_;clear n0_ n1_ n2_ n3_;(try clear hb);(try clear hk);(try clear hi);(try clear ho0)))
 go_ret2
 exact ⟨_,_,q21_,by (with_reducible repeat (first | apply Kd.R_alloc | apply Kd.R_drewN | apply Kd.R_drew));exact HO214.out,by (with_reducible repeat (first | apply Kd.R_alloc | apply Kd.R_drewN | apply Kd.R_drew));exact HO218.out,q6_⟩
def impl_within.f (a0:Int) (a1:Int) (a2:Int):Option (Bool):=if a0 ≥ a1 then (some (decide (a0 ≤ a2))) else (some false)
theorem impl_within.calls (a0:Int) (a1:Int) (a2:Int) (r:Bool) (w:World) (h:impl_within.f a0 a1 a2 = some r) :
  Calls Try.prog 40 #[.int .i64 a0,.int .i64 a1,.int .i64 a2] w fun e w' => e = .returned (.bool r) ∧ Drawn0 w w':=by
 have H:=h;unfold impl_within.f at H
 clear h
 by_cases c4:a0 ≥ a1
 ·rw [if_pos c4] at H
  have c4b0:decide (a1 ≤ a0) = true:=decide_eq_true c4
  clear c4
  obtain rfl:=Option.some.inj H
  go_enter Try.func40,Try.ntmps40
  go_wp2
  go_ret
  exact ⟨q25_,q40_⟩
 rw [if_neg c4] at H
 have c4b0:decide (a1 ≤ a0) = false:=decide_eq_false c4
 clear c4
 obtain rfl:=Option.some.inj H
 go_enter Try.func40,Try.ntmps40
 go_wp2
 go_ret
 exact ⟨q25_,q40_⟩
def impl_isWord.f (a0:Int):Option (Bool):=(impl_within.f a0 0 65535).bind fun t220 => (some t220)
theorem impl_isWord.calls (a0:Int) (r:Bool) (w:World) (h:impl_isWord.f a0 = some r) :
  Calls Try.prog 38 #[.int .i64 a0] w fun e w' => e = .returned (.bool r) ∧ Drawn0 w w':=by
 have H:=h;unfold impl_isWord.f at H
 clear h
 replace H:=Option.bind_eq_some_iff.mp H
 obtain ⟨t220,A20,H⟩:=H
 have A2:=Aside0.mk A20
 clear A20
 obtain rfl:=Option.some.inj H
 go_enter Try.func38,Try.ntmps38
 go_wp2_with (first | ((with_reducible refine gate_callee (f:=40) rfl ?_);refine goesL_ (some 4) rfl rfl Try.func40 (by kernel_rfl) rfl #[.int .i64 a0,.int .i64 0,.int .i64 65535] rfl q18_ ?_;(with_reducible refine (impl_within.calls a0 0 65535 t220 _ A2.out).mono ?_);rintro e w' ⟨rfl,⟨nd,rfl⟩⟩;refine ⟨_,rfl,?_⟩))
 go_ret
 exact ⟨q25_,q40_⟩
def impl_isDigit.f (a0:Int):Option (Bool):=if a0 ≥ 48 then (some (decide (a0 ≤ 57))) else (some false)
theorem impl_isDigit.calls (a0:Int) (r:Bool) (w:World) (h:impl_isDigit.f a0 = some r) :
  Calls Try.prog 51 #[.int .u8 a0] w fun e w' => e = .returned (.bool r) ∧ Drawn0 w w':=by
 have H:=h;unfold impl_isDigit.f at H
 clear h
 by_cases c2:a0 ≥ 48
 ·rw [if_pos c2] at H
  have c2b0:decide (48 ≤ a0) = true:=decide_eq_true c2
  clear c2
  obtain rfl:=Option.some.inj H
  go_enter Try.func51,Try.ntmps51
  go_wp2
  go_ret
  exact ⟨q25_,q40_⟩
 rw [if_neg c2] at H
 have c2b0:decide (48 ≤ a0) = false:=decide_eq_false c2
 clear c2
 obtain rfl:=Option.some.inj H
 go_enter Try.func51,Try.ntmps51
 go_wp2
 go_ret
 exact ⟨q25_,q40_⟩
end Go.Proofs.Ytpghjbikjmnnoaa.QFnEval
