/- The machine's side of a law,written by a program of this session for this claim. -/
import Derived.Test.YtabbdfchibjndaaGreatDoorXQq
import Derived.Test.YtabbdfchibjndaaGreatDoorXQFnExprTextsx0
import Derived.Test.YtabbdfchibjndaaGreatDoorXQFnExprTextsx2
import Derived.Test.YtabbdfchibjndaaGreatDoorXQFnExprTextsx3
namespace Go.Proofs.YtabbdfchibjndaaGreatDoor.QFnExprTexts
open Go.Proofs.YtabbdfchibjndaaGreatDoor.Qq
open Go.RowKit Go.Proofs.YtabbdfchibjndaaGreatDoor.LibX Go.Proofs.YtabbdfchibjndaaGreatDoor.LibE Go.Proofs.YtabbdfchibjndaaGreatDoor.LibG Go.Proofs.YtabbdfchibjndaaGreatDoor.LibCv Go.Proofs.YtabbdfchibjndaaGreatDoorW.PrintWords Go.Proofs.YtabbdfchibjndaaGreatDoorW.PrintLast Go.Proofs.YtabbdfchibjndaaGreatDoorW.PrintMore
attribute [local go_sem] max2_int min2_int max_two min_two max_three min_three max_four min_four   -- for this text's walks alone
set_option maxHeartbeats 8000000
set_option maxRecDepth 100000
set_option linter.unusedVariables false
set_option linter.unusedSimpArgs false
def spec_l1Rd_once.f (s0_0:List Int) (s0_1:Int) (a1:Int):Option (Bool × Int):=(spec_l1Rd_below.f s0_0 s0_1 a1).bind fun bt159 => (some ((bt159.1 == (wrap64 (a1 - 1))),bt159.2))
theorem spec_l1Rd_once.calls (g:Nat) (s0_0:List Int) (s0_1:Int) (a1:Int) (r1:Bool) (r2:Int) (w0 w:World) (hI:IsS61 w0 w g s0_0 s0_1) (hB:Below w0.heap.size w0 w) (h:spec_l1Rd_once.f s0_0 s0_1 a1 = some (r1,r2)) :
  Calls Tryz.prog 45 #[.pointer (some ⟨g,0,none⟩),.int .i64 a1] w fun e w' => e = .returned (.bool r1) ∧ IsS61 w0 w' g s0_0 r2 ∧ Below w0.heap.size w0 w' ∧ KeepBut w w' g none:=by
 have HI0:=Aside0.mk hI
 have HK:=Aside0.mk (KeepBut.refl w g none)
 have HL:=Aside0.mk hB.size
 clear hI
 have HW0:=Aside0.mk hB.size
 have HB:=Aside0.mk hB
 clear hB
 have H:=h;unfold spec_l1Rd_once.f at H
 clear h
 replace H:=Option.bind_eq_some_iff.mp H
 obtain ⟨⟨t159,t160⟩,A30,H⟩:=H
 try dsimp -simprocs -eta only at H
 have A3:=Aside0.mk A30
 clear A30
 simp only [Option.some.injEq,Prod.mk.injEq] at H
 obtain ⟨rfl,rfl⟩:=H
 go_enter Tryz.func45,Tryz.ntmps45
 go_wp2_with (first | ((with_reducible refine gate_callee (f:=42) rfl ?_);refine goesL_ (some 7) rfl rfl Tryz.func42 (by kernel_rfl) rfl #[.pointer (some ⟨g,0,none⟩),.int .i64 a1] rfl q22_ ?_;(with_reducible refine (spec_l1Rd_below.calls g s0_0 s0_1 a1 t159 t160 w0 _ ?side1 ?side2 A3.out).mono ?_);(case side1 => exact q58_);(case side2 => exact q50_);rintro e w4 ⟨rfl,hi,hb,hk⟩;refine ⟨_,rfl,?_⟩;have n0_:=Aside0.mk (KeepBut.trans q19_ hk (.inl rfl));have n1_:=Aside0.mk (hb);have n2_:=Aside0.mk (hi);clear HK;clear HB;clear HI0;have HK:=n0_;have HB:=n1_;have HI0:=n2_;clear n0_ n1_ n2_;(try clear hb);(try clear hk);(try clear hi)))
 go_ret
 exact ⟨q26_,q18_,q9_,q19_⟩
def spec_l1Rd_word.l0:Nat → Int → Int → List Int → Int → Option (Int × Int)
 | 0,_,_,_,_ => none
 | k + 1,x3,x4,x1000,x1001 => if x4 < 8 then ((spec_l1Rd_next.f x1000 x1001).bind fun bt161 => (spec_l1Rd_word.l0 k (Go.bits .or .u64 (IntKind.u64.wrap (x3 * 256)) (IntKind.u64.wrap (bt161.1))) (wrap64 (x4 + 1)) x1000 bt161.2)) else (some (x3,x1001))
def spec_l1Rd_word.f (k:Nat) (s0_0:List Int) (s0_1:Int):Option (Int × Int):=spec_l1Rd_word.l0 k 0 0 s0_0 s0_1
theorem spec_l1Rd_word.mono_l:∀ k,(∀ y0 y1 y2 y3,LeO (spec_l1Rd_word.l0 k y0 y1 y2 y3) (spec_l1Rd_word.l0 (k + 1) y0 y1 y2 y3))
 | 0 => fun _ _ _ _ r h => by simp [spec_l1Rd_word.l0] at h
 | k + 1 => by
  have ih0:=spec_l1Rd_word.mono_l k
  intro y0 y1 y2 y3
  unfold spec_l1Rd_word.l0
  repeat' first
  | (with_reducible first | exact ih0 _ _ _ _ | exact LeO.refl _ | exact LeO.none _ | refine LeO.ite ?_ ?_ | refine LeO.bind ?_ (fun _ => ?_))
  | exact ih0 _ _ _ _
  | exact LeO.none _
  | refine LeO.ite ?_ ?_
  | refine LeO.bind ?_ (fun _ => ?_)
theorem spec_l1Rd_word.mono:∀ a0 a1 k,LeO (spec_l1Rd_word.f k a0 a1) (spec_l1Rd_word.f (k + 1) a0 a1):=by
 intro a0 a1 k
 have ih0:=spec_l1Rd_word.mono_l k
 unfold spec_l1Rd_word.f
 repeat' first
   | (with_reducible first | exact ih0 _ _ _ _ | exact LeO.refl _ | exact LeO.none _ | refine LeO.ite ?_ ?_ | refine LeO.bind ?_ (fun _ => ?_))
   | exact ih0 _ _ _ _
   | exact LeO.none _
   | refine LeO.ite ?_ ?_
   | refine LeO.bind ?_ (fun _ => ?_)
theorem spec_l1Rd_word.calls (k:Nat) (g:Nat) (s0_0:List Int) (s0_1:Int) (r1:Int) (r2:Int) (w0 w:World) (hI:IsS61 w0 w g s0_0 s0_1) (hB:Below w0.heap.size w0 w) (h:spec_l1Rd_word.f k s0_0 s0_1 = some (r1,r2)) :
  Calls Tryz.prog 85 #[.pointer (some ⟨g,0,none⟩)] w fun e w' => e = .returned (.int .u64 r1) ∧ IsS61 w0 w' g s0_0 r2 ∧ Below w0.heap.size w0 w' ∧ KeepBut w w' g none:=by
 have HI0:=Aside0.mk hI
 have HK:=Aside0.mk (KeepBut.refl w g none)
 have HL:=Aside0.mk hB.size
 clear hI
 have HW0:=Aside0.mk hB.size
 have HB:=Aside0.mk hB
 clear hB
 have H:(spec_l1Rd_word.l0 k 0 0 s0_0 s0_1) = some (r1,r2):=h
 clear h
 have H':=Aside0.mk H
 clear H
 go_enter Tryz.func85,Tryz.ntmps85
 go_wp2
 go_loopg [3,4] k (fun kq v3 v4 w' => ∃ (x3_1:Int) (x4_1:Int) (x1001_1:Int),v3 = .int .u64 x3_1 ∧ v4 = .int .i64 x4_1 ∧ Aside0 (spec_l1Rd_word.l0 kq x3_1 x4_1 s0_0 x1001_1 = some (r1,r2)) ∧ Aside0 (kq ≤ k) ∧ Aside0 (IsS61 w0 w' g s0_0 x1001_1) ∧ Aside0 (KeepBut w w' g none) ∧ Aside0 (Below w0.heap.size w0 w'))
 case atStart => exact ⟨(0),(0),(s0_1),q31_,q31_,H',⟨Nat.le_refl _⟩,⟨q18_⟩,⟨q19_⟩,⟨q9_⟩⟩
 clear H'
 obtain ⟨x3_1,x4_1,x1001_1,rfl,rfl,HA,HK1,HI0,HK,HB⟩:=hrel
 cases gk with
 | zero => exact absurd HA.out (by simp [spec_l1Rd_word.l0])
 | succ k1 =>
  have H:=HA.out
  clear HA
  simp only [spec_l1Rd_word.l0] at H
  by_cases c2:x4_1 < 8
  ·rw [if_pos c2] at H
   have c2b0:=decide_eq_true c2
   clear c2
   replace H:=Option.bind_eq_some_iff.mp H
   obtain ⟨⟨t161,t162⟩,A30,H⟩:=H
   try dsimp -simprocs -eta only at H
   have A3:=Aside0.mk A30
   clear A30
   have H':=Aside0.mk H
   clear H
   go_wp2_with (first | ((with_reducible refine gate_callee (f:=64) rfl ?_);refine goesL_ (some 12) rfl rfl Tryz.func64 (by kernel_rfl) rfl #[.pointer (some ⟨g,0,none⟩)] rfl q22_ ?_;(with_reducible refine (spec_l1Rd_next.calls g s0_0 x1001_1 t161 t162 w0 _ ?side1 ?side2 A3.out).mono ?_);(case side1 => exact q58_);(case side2 => exact q50_);rintro e w4 ⟨rfl,hi,hb,hk⟩;refine ⟨_,rfl,?_⟩;have n0_:=Aside0.mk (KeepBut.trans q19_ hk (.inl rfl));have n1_:=Aside0.mk (hb);have n2_:=Aside0.mk (hi);clear HK;clear HB;clear HI0;have HK:=n0_;have HB:=n1_;have HI0:=n2_;clear n0_ n1_ n2_;(try clear hb);(try clear hk);(try clear hi)))
   go_roundg k1
   case measure => have:=HK1.out;omega
   case rel => exact ⟨(Go.bits .or .u64 (IntKind.u64.wrap (x3_1 * 256)) (IntKind.u64.wrap (t161))),(wrap64 (x4_1 + 1)),(t162),q31_,q31_,H',⟨by have:=HK1.out;omega⟩,⟨q18_⟩,⟨q19_⟩,⟨q9_⟩⟩
  rw [if_neg c2] at H
  have c2b0:=decide_eq_false c2
  clear c2
  simp only [Option.some.injEq,Prod.mk.injEq] at H
  obtain ⟨rfl,rfl⟩:=H
  go_wp2
  go_ret
  exact ⟨q26_,q18_,q9_,q19_⟩
def spec_l1Rd_near.f (k:Nat) (s0_0:List Int) (s0_1:Int) (a1:Int) (a2:Int):Option (Int × Int):=(spec_l1Rd_below.f s0_0 s0_1 8).bind fun bt163 => (if bt163.1 = 0 then (some (a1,bt163.2)) else (if bt163.1 = 1 then (some (a2,bt163.2)) else (if a2 < a1 then (some (a1,bt163.2)) else ((spec_l1Rd_word.f k s0_0 bt163.2).bind fun bt165 => (if (IntKind.u64.wrap (wrap64 ((wrap64 (a2 - a1)) + 1))) = 0 then (none) else (some (wrap64 (a1 + (wrap64 (Int.tmod (bt165.1 / 2) (IntKind.u64.wrap (wrap64 ((wrap64 (a2 - a1)) + 1)))))),bt165.2)))))))
theorem spec_l1Rd_near.mono:∀ a0 a1 a2 a3 k,LeO (spec_l1Rd_near.f k a0 a1 a2 a3) (spec_l1Rd_near.f (k + 1) a0 a1 a2 a3):=by
 intro a0 a1 a2 a3 k
 unfold spec_l1Rd_near.f
 repeat' first
   | (with_reducible first | exact spec_l1Rd_word.mono _ _ _ | exact LeO.refl _ | exact LeO.none _ | refine LeO.ite ?_ ?_ | refine LeO.bind ?_ (fun _ => ?_))
   | exact spec_l1Rd_word.mono _ _ _
   | exact LeO.none _
   | refine LeO.ite ?_ ?_
   | refine LeO.bind ?_ (fun _ => ?_)
theorem spec_l1Rd_near.calls (k:Nat) (g:Nat) (s0_0:List Int) (s0_1:Int) (a1:Int) (a2:Int) (r1:Int) (r2:Int) (w0 w:World) (hI:IsS61 w0 w g s0_0 s0_1) (hB:Below w0.heap.size w0 w) (h:spec_l1Rd_near.f k s0_0 s0_1 a1 a2 = some (r1,r2)) :
  Calls Tryz.prog 67 #[.pointer (some ⟨g,0,none⟩),.int .i64 a1,.int .i64 a2] w fun e w' => e = .returned (.int .i64 r1) ∧ IsS61 w0 w' g s0_0 r2 ∧ Below w0.heap.size w0 w' ∧ KeepBut w w' g none:=by
 have HI0:=Aside0.mk hI
 have HK:=Aside0.mk (KeepBut.refl w g none)
 have HL:=Aside0.mk hB.size
 clear hI
 have HW0:=Aside0.mk hB.size
 have HB:=Aside0.mk hB
 clear hB
 have H:=h;unfold spec_l1Rd_near.f at H
 clear h
 replace H:=Option.bind_eq_some_iff.mp H
 obtain ⟨⟨t163,t164⟩,A40,H⟩:=H
 try dsimp -simprocs -eta only at H
 have A4:=Aside0.mk A40
 clear A40
 by_cases c5:t163 = 0
 ·rw [if_pos c5] at H
  have c5b0:(t163 == 0) = true:=beq_iff_eq.mpr c5
  have c5b1:(t163 != 0) = false:=bne_eq_false_iff_eq.mpr c5
  clear c5
  simp only [Option.some.injEq,Prod.mk.injEq] at H
  obtain ⟨rfl,rfl⟩:=H
  go_enter Tryz.func67,Tryz.ntmps67
  go_wp2_with (first | ((with_reducible refine gate_callee (f:=42) rfl ?_);refine goesL_ (some 8) rfl rfl Tryz.func42 (by kernel_rfl) rfl #[.pointer (some ⟨g,0,none⟩),.int .i64 8] rfl q22_ ?_;(with_reducible refine (spec_l1Rd_below.calls g s0_0 s0_1 8 t163 t164 w0 _ ?side1 ?side2 A4.out).mono ?_);(case side1 => exact q58_);(case side2 => exact q50_);rintro e w6 ⟨rfl,hi,hb,hk⟩;refine ⟨_,rfl,?_⟩;have n0_:=Aside0.mk (KeepBut.trans q19_ hk (.inl rfl));have n1_:=Aside0.mk (hb);have n2_:=Aside0.mk (hi);clear HK;clear HB;clear HI0;have HK:=n0_;have HB:=n1_;have HI0:=n2_;clear n0_ n1_ n2_;(try clear hb);(try clear hk);(try clear hi)))
  go_ret
  exact ⟨q26_,q18_,q9_,q19_⟩
 rw [if_neg c5] at H
 have c5b0:(t163 == 0) = false:=beq_eq_false_iff_ne.mpr c5
 have c5b1:(t163 != 0) = true:=bne_iff_ne.mpr c5
 by_cases c7:t163 = 1
 ·rw [if_pos c7] at H
  have c7b0:(t163 == 1) = true:=beq_iff_eq.mpr c7
  have c7b1:(t163 != 1) = false:=bne_eq_false_iff_eq.mpr c7
  clear c7
  simp only [Option.some.injEq,Prod.mk.injEq] at H
  obtain ⟨rfl,rfl⟩:=H
  go_enter Tryz.func67,Tryz.ntmps67
  go_wp2_with (first | ((with_reducible refine gate_callee (f:=42) rfl ?_);refine goesL_ (some 8) rfl rfl Tryz.func42 (by kernel_rfl) rfl #[.pointer (some ⟨g,0,none⟩),.int .i64 8] rfl q22_ ?_;(with_reducible refine (spec_l1Rd_below.calls g s0_0 s0_1 8 t163 t164 w0 _ ?side1 ?side2 A4.out).mono ?_);(case side1 => exact q58_);(case side2 => exact q50_);rintro e w8 ⟨rfl,hi,hb,hk⟩;refine ⟨_,rfl,?_⟩;have n0_:=Aside0.mk (KeepBut.trans q19_ hk (.inl rfl));have n1_:=Aside0.mk (hb);have n2_:=Aside0.mk (hi);clear HK;clear HB;clear HI0;have HK:=n0_;have HB:=n1_;have HI0:=n2_;clear n0_ n1_ n2_;(try clear hb);(try clear hk);(try clear hi)))
  go_ret
  exact ⟨q26_,q18_,q9_,q19_⟩
 rw [if_neg c7] at H
 have c7b0:(t163 == 1) = false:=beq_eq_false_iff_ne.mpr c7
 have c7b1:(t163 != 1) = true:=bne_iff_ne.mpr c7
 by_cases c9:a2 < a1
 ·rw [if_pos c9] at H
  have c9b0:=decide_eq_true c9
  clear c9
  simp only [Option.some.injEq,Prod.mk.injEq] at H
  obtain ⟨rfl,rfl⟩:=H
  go_enter Tryz.func67,Tryz.ntmps67
  go_wp2_with (first | ((with_reducible refine gate_callee (f:=42) rfl ?_);refine goesL_ (some 8) rfl rfl Tryz.func42 (by kernel_rfl) rfl #[.pointer (some ⟨g,0,none⟩),.int .i64 8] rfl q22_ ?_;(with_reducible refine (spec_l1Rd_below.calls g s0_0 s0_1 8 t163 t164 w0 _ ?side1 ?side2 A4.out).mono ?_);(case side1 => exact q58_);(case side2 => exact q50_);rintro e w10 ⟨rfl,hi,hb,hk⟩;refine ⟨_,rfl,?_⟩;have n0_:=Aside0.mk (KeepBut.trans q19_ hk (.inl rfl));have n1_:=Aside0.mk (hb);have n2_:=Aside0.mk (hi);clear HK;clear HB;clear HI0;have HK:=n0_;have HB:=n1_;have HI0:=n2_;clear n0_ n1_ n2_;(try clear hb);(try clear hk);(try clear hi)))
  go_ret
  exact ⟨q26_,q18_,q9_,q19_⟩
 rw [if_neg c9] at H
 have c9b0:=decide_eq_false c9
 clear c9
 replace H:=Option.bind_eq_some_iff.mp H
 obtain ⟨⟨t165,t166⟩,A110,H⟩:=H
 try dsimp -simprocs -eta only at H
 have A11:=Aside0.mk A110
 clear A110
 by_cases c12:(IntKind.u64.wrap (wrap64 ((wrap64 (a2 - a1)) + 1))) = 0
 ·rw [if_pos c12] at H
  exact absurd H (by simp)
 rw [if_neg c12] at H
 have c12b0:((IntKind.u64.wrap (wrap64 ((wrap64 (a2 - a1)) + 1))) == 0) = false:=beq_eq_false_iff_ne.mpr c12
 have c12b1:((IntKind.u64.wrap (wrap64 ((wrap64 (a2 - a1)) + 1))) != 0) = true:=bne_iff_ne.mpr c12
 simp only [Option.some.injEq,Prod.mk.injEq] at H
 obtain ⟨rfl,rfl⟩:=H
 go_enter Tryz.func67,Tryz.ntmps67
 go_wp2_with (first | ((with_reducible refine gate_callee (f:=42) rfl ?_);refine goesL_ (some 8) rfl rfl Tryz.func42 (by kernel_rfl) rfl #[.pointer (some ⟨g,0,none⟩),.int .i64 8] rfl q22_ ?_;(with_reducible refine (spec_l1Rd_below.calls g s0_0 s0_1 8 t163 t164 w0 _ ?side1 ?side2 A4.out).mono ?_);(case side1 => exact q58_);(case side2 => exact q50_);rintro e w13 ⟨rfl,hi,hb,hk⟩;refine ⟨_,rfl,?_⟩;have n0_:=Aside0.mk (KeepBut.trans q19_ hk (.inl rfl));have n1_:=Aside0.mk (hb);have n2_:=Aside0.mk (hi);clear HK;clear HB;clear HI0;have HK:=n0_;have HB:=n1_;have HI0:=n2_;clear n0_ n1_ n2_;(try clear hb);(try clear hk);(try clear hi)) | ((with_reducible refine gate_callee (f:=85) rfl ?_);refine goesL_ (some 21) rfl rfl Tryz.func85 (by kernel_rfl) rfl #[.pointer (some ⟨g,0,none⟩)] rfl q22_ ?_;(with_reducible refine (spec_l1Rd_word.calls k g s0_0 t164 t165 t166 w0 _ ?side1 ?side2 A11.out).mono ?_);(case side1 => exact q58_);(case side2 => exact q50_);rintro e w14 ⟨rfl,hi,hb,hk⟩;refine ⟨_,rfl,?_⟩;have n0_:=Aside0.mk (KeepBut.trans q19_ hk (.inl rfl));have n1_:=Aside0.mk (hb);have n2_:=Aside0.mk (hi);clear HK;clear HB;clear HI0;have HK:=n0_;have HB:=n1_;have HI0:=n2_;clear n0_ n1_ n2_;(try clear hb);(try clear hk);(try clear hi)))
 go_ret
 exact ⟨q26_,q18_,q9_,q19_⟩
def spec_l1Rd_off.f (k:Nat) (s0_0:List Int) (s0_1:Int) (a1:Int) (a2:Int):Option (Int × Int):=(spec_l1Rd_once.f s0_0 s0_1 24).bind fun bt167 => (if bt167.1 = true then ((some (([wrap64 (a1 - 1),wrap64 (a2 + 1),(-9223372036854775808),9223372036854775807]:List Int):List Int)).bind fun y169 => ((spec_l1Rd_below.f s0_0 bt167.2 4).bind fun bt172 => (if 0 ≤ bt172.1 then (if bt172.1 < (y169.length:Int) then (some (rd y169 bt172.1,bt172.2)) else (none)) else (none)))) else ((spec_l1Rd_near.f k s0_0 bt167.2 a1 a2).bind fun bt175 => (some (bt175.1,bt175.2))))
theorem spec_l1Rd_off.mono:∀ a0 a1 a2 a3 k,LeO (spec_l1Rd_off.f k a0 a1 a2 a3) (spec_l1Rd_off.f (k + 1) a0 a1 a2 a3):=by
 intro a0 a1 a2 a3 k
 unfold spec_l1Rd_off.f
 repeat' first
   | (with_reducible first | exact spec_l1Rd_near.mono _ _ _ _ _ | exact LeO.refl _ | exact LeO.none _ | refine LeO.ite ?_ ?_ | refine LeO.bind ?_ (fun _ => ?_))
   | exact spec_l1Rd_near.mono _ _ _ _ _
   | exact LeO.none _
   | refine LeO.ite ?_ ?_
   | refine LeO.bind ?_ (fun _ => ?_)
theorem spec_l1Rd_off.calls (k:Nat) (g:Nat) (s0_0:List Int) (s0_1:Int) (a1:Int) (a2:Int) (r1:Int) (r2:Int) (w0 w:World) (hI:IsS61 w0 w g s0_0 s0_1) (hB:Below w0.heap.size w0 w) (h:spec_l1Rd_off.f k s0_0 s0_1 a1 a2 = some (r1,r2)) :
  Calls Tryz.prog 46 #[.pointer (some ⟨g,0,none⟩),.int .i64 a1,.int .i64 a2] w fun e w' => e = .returned (.int .i64 r1) ∧ IsS61 w0 w' g s0_0 r2 ∧ Below w0.heap.size w0 w' ∧ KeepBut w w' g none:=by
 have HI0:=Aside0.mk hI
 have HK:=Aside0.mk (KeepBut.refl w g none)
 have HL:=Aside0.mk hB.size
 clear hI
 have HW0:=Aside0.mk hB.size
 have HB:=Aside0.mk hB
 clear hB
 have H:=h;unfold spec_l1Rd_off.f at H
 clear h
 replace H:=Option.bind_eq_some_iff.mp H
 obtain ⟨⟨t167,t168⟩,A40,H⟩:=H
 try dsimp -simprocs -eta only at H
 have A4:=Aside0.mk A40
 clear A40
 by_cases c5:t167 = true
 ·subst c5
  rewrite [if_pos rfl] at H
  obtain ⟨y169,hy169⟩:∃ y_:List Int,y_ = (([wrap64 (a1 - 1),wrap64 (a2 + 1),(-9223372036854775808),9223372036854775807]:List Int)):=⟨_,rfl⟩
  replace H:((spec_l1Rd_below.f s0_0 t168 4).bind fun bt172 => (if 0 ≤ bt172.1 then (if bt172.1 < (y169.length:Int) then (some (rd y169 bt172.1,bt172.2)) else (none)) else (none))) = some (r1,r2):=by first | (rw [hy169];exact H) | exact H
  have Ny169:=Aside0.mk hy169
  clear hy169
  replace H:=Option.bind_eq_some_iff.mp H
  obtain ⟨⟨t172,t173⟩,A60,H⟩:=H
  try dsimp -simprocs -eta only at H
  have A6:=Aside0.mk A60
  clear A60
  by_cases c7:0 ≤ t172
  rotate_left
  ·rw [if_neg c7] at H
   exact absurd H (by simp)
  rw [if_pos c7] at H
  have c7b0:=decide_eq_true c7
  clear c7
  by_cases c8:t172 < (y169.length:Int)
  rotate_left
  ·rw [if_neg c8] at H
   exact absurd H (by simp)
  rw [if_pos c8] at H
  have c8b0:=decide_eq_true c8
  clear c8
  simp only [Option.some.injEq,Prod.mk.injEq] at H
  obtain ⟨rfl,rfl⟩:=H
  go_enter Tryz.func46,Tryz.ntmps46
  go_wp2_with (first | ((with_reducible refine gate_callee (f:=45) rfl ?_);refine goesL_ (some 8) rfl rfl Tryz.func45 (by kernel_rfl) rfl #[.pointer (some ⟨g,0,none⟩),.int .i64 24] rfl q22_ ?_;(with_reducible refine (spec_l1Rd_once.calls g s0_0 s0_1 24 true t168 w0 _ ?side1 ?side2 A4.out).mono ?_);(case side1 => exact q58_);(case side2 => exact q50_);rintro e w9 ⟨rfl,hi,hb,hk⟩;refine ⟨_,rfl,?_⟩;have n0_:=Aside0.mk (KeepBut.trans q19_ hk (.inl rfl));have n1_:=Aside0.mk (hb);have n2_:=Aside0.mk (hi);clear HK;clear HB;clear HI0;have HK:=n0_;have HB:=n1_;have HI0:=n2_;clear n0_ n1_ n2_;(try clear hb);(try clear hk);(try clear hi)) | ((with_reducible refine gate_dst (N:=13) rfl ?_);refine Kd.R_lit (Kd.int .i64) _ 2 ?hg (N:=13) ?hd (xs:=([wrap64 (a1 - 1),wrap64 (a2 + 1),(-9223372036854775808),9223372036854775807]:List Int)) (inner:=[.int .i64 (wrap64 (a1 - 1)),.int .i64 (wrap64 (a2 + 1)),.int .i64 (-9223372036854775808),.int .i64 9223372036854775807]) (ok:=fun _ => True) (okp:=fun _ => True) ?hr ?hp (fun _ hk => hk) trivial (Below.refl _ _) (Nat.le_refl _) (by simp) ?_;(case hd => rfl);(case hg => rfl);(case hr => exact q59_);(case hp => exact (Reps.one (show Kd.M (Kd.int .i64) _ _ _ (wrap64 (a1 - 1)) [.int .i64 (wrap64 (a1 - 1))] from rfl) (Reps.one (show Kd.M (Kd.int .i64) _ _ _ (wrap64 (a2 + 1)) [.int .i64 (wrap64 (a2 + 1))] from rfl) (Reps.one (show Kd.M (Kd.int .i64) _ _ _ (-9223372036854775808) [.int .i64 (-9223372036854775808)] from rfl) (Reps.one (show Kd.M (Kd.int .i64) _ _ _ 9223372036854775807 [.int .i64 9223372036854775807] from rfl) (Reps.none _ _))))));intro v170 w10 ho11 hb hg_ hnew_;clear hg_ hnew_;(first | rw [← Ny169.out] at ho11 | (simp only [Int.reduceToNat] at ho11;rw [← Ny169.out] at ho11));have n0_:=Aside0.mk (Kd.R_lower ho11 (keep_size (w:=w) (g:=g) (row:=none) q19_));have n1_:=Aside0.mk (IsS61.below q18_ hb);have n2_:=Aside0.mk (KeepBut.trans q19_ (KeepBut.of_below hb g none) (.inl rfl));have n3_:=Aside0.mk (below_step q9_ hb);clear HI0;clear HK;clear HB;have HO171:=n0_;have HI0:=n1_;have HK:=n2_;have HB:=n3_;clear n0_ n1_ n2_ n3_;clear hb ho11) | ((with_reducible refine gate_callee (f:=42) rfl ?_);refine goesL_ (some 15) rfl rfl Tryz.func42 (by kernel_rfl) rfl #[.pointer (some ⟨g,0,none⟩),.int .i64 4] rfl q22_ ?_;(with_reducible refine (spec_l1Rd_below.calls g s0_0 t168 4 t172 t173 w0 _ ?side1 ?side2 A6.out).mono ?_);(case side1 => exact q58_);(case side2 => exact q50_);rintro e w12 ⟨rfl,hi,hb,hk⟩;refine ⟨_,rfl,?_⟩;have n0_:=Aside0.mk (Kd.R_mono (Kd.R_keep (IsS61.apart (show IsS61 w0 _ g s0_0 t168 from by repeat (first | (with_reducible first | exact HI0.out | apply IsS61.alloc | apply IsS61.drewN | apply IsS61.drew | apply IsS61.set_1) | exact HI0.out)) (by (with_reducible repeat (first | apply Kd.R_alloc | apply Kd.R_drewN | apply Kd.R_drew));exact HO171.out) (by decide)) hk (fun _ h => h.2)) (fun _ h => h.1));have n1_:=Aside0.mk (KeepBut.trans q19_ hk (.inl rfl));have n2_:=Aside0.mk (hb);have n3_:=Aside0.mk (hi);clear HO171;clear HK;clear HB;clear HI0;have HO171:=n0_;have HK:=n1_;have HB:=n2_;have HI0:=n3_;clear n0_ n1_ n2_ n3_;(try clear hb);(try clear hk);(try clear hi);obtain ⟨Ao13,co13,eo13⟩:=Kd.R_slice HO171.out;subst eo13;have p174:0 ≤ (t172:Int):=of_decide_eq_true q46_;have q174:t172 < (y169.length:Int):=of_decide_eq_true q46_;obtain ⟨ad174,e174,hx174_0⟩:=Kd.at_int (Kd.R_reads' HO171.out).2.2 t172 p174 q174;cases e174;replace p174:=eq_true p174;replace q174:=eq_true q174))
  go_ret
  exact ⟨q26_,q18_,q9_,q19_⟩
 replace c5:=Bool.eq_false_iff.mpr c5
 subst c5
 rewrite [if_neg (show ¬ (false = true) by decide)] at H
 replace H:=Option.bind_eq_some_iff.mp H
 obtain ⟨⟨t175,t176⟩,A140,H⟩:=H
 try dsimp -simprocs -eta only at H
 have A14:=Aside0.mk A140
 clear A140
 simp only [Option.some.injEq,Prod.mk.injEq] at H
 obtain ⟨rfl,rfl⟩:=H
 go_enter Tryz.func46,Tryz.ntmps46
 go_wp2_with (first | ((with_reducible refine gate_callee (f:=45) rfl ?_);refine goesL_ (some 8) rfl rfl Tryz.func45 (by kernel_rfl) rfl #[.pointer (some ⟨g,0,none⟩),.int .i64 24] rfl q22_ ?_;(with_reducible refine (spec_l1Rd_once.calls g s0_0 s0_1 24 false t168 w0 _ ?side1 ?side2 A4.out).mono ?_);(case side1 => exact q58_);(case side2 => exact q50_);rintro e w15 ⟨rfl,hi,hb,hk⟩;refine ⟨_,rfl,?_⟩;have n0_:=Aside0.mk (KeepBut.trans q19_ hk (.inl rfl));have n1_:=Aside0.mk (hb);have n2_:=Aside0.mk (hi);clear HK;clear HB;clear HI0;have HK:=n0_;have HB:=n1_;have HI0:=n2_;clear n0_ n1_ n2_;(try clear hb);(try clear hk);(try clear hi)) | ((with_reducible refine gate_callee (f:=67) rfl ?_);refine goesL_ (some 21) rfl rfl Tryz.func67 (by kernel_rfl) rfl #[.pointer (some ⟨g,0,none⟩),.int .i64 a1,.int .i64 a2] rfl q22_ ?_;(with_reducible refine (spec_l1Rd_near.calls k g s0_0 t168 a1 a2 t175 t176 w0 _ ?side1 ?side2 A14.out).mono ?_);(case side1 => exact q58_);(case side2 => exact q50_);rintro e w16 ⟨rfl,hi,hb,hk⟩;refine ⟨_,rfl,?_⟩;have n0_:=Aside0.mk (KeepBut.trans q19_ hk (.inl rfl));have n1_:=Aside0.mk (hb);have n2_:=Aside0.mk (hi);clear HK;clear HB;clear HI0;have HK:=n0_;have HB:=n1_;have HI0:=n2_;clear n0_ n1_ n2_;(try clear hb);(try clear hk);(try clear hi)))
 go_ret
 exact ⟨q26_,q18_,q9_,q19_⟩
def spec_l1Rd_expr.f (k:Nat) (s0_0:List Int) (s0_1:Int):Option ((List (S43)) × Int):=(spec_l1Rd_infix.f k s0_0 s0_1 1).bind fun bt177 => ((spec_Compiled.f k bt177.1).bind fun bt179 => (if bt179.2 = true then ((spec_l1Rd_once.f s0_0 bt177.2 20).bind fun bt186 => (if bt186.1 = true then ((spec_l1Rd_below.f s0_0 bt186.2 (bt179.1.length:Int)).bind fun bt188 => ((spec_l1Rd_off.f k s0_0 bt188.2 1 17).bind fun bt190 => (if 0 ≤ bt188.1 then (if bt188.1 < (bt179.1.length:Int) then (some ((bt179.1.set (bt188.1:Int).toNat (⟨bt190.1,(rd_T43 bt179.1 bt188.1).f1,(rd_T43 bt179.1 bt188.1).f2⟩:S43)),bt190.2)) else (none)) else (none)))) else (some (bt179.1,bt186.2)))) else (some ((([(⟨1,5,(⟨#[]⟩:ByteArray)⟩:S43)]:List (S43))),bt177.2))))
theorem spec_l1Rd_expr.mono:∀ a0 a1 k,LeO (spec_l1Rd_expr.f k a0 a1) (spec_l1Rd_expr.f (k + 1) a0 a1):=by
 intro a0 a1 k
 unfold spec_l1Rd_expr.f
 repeat' first
   | (with_reducible first | exact spec_Compiled.mono _ _ | exact spec_l1Rd_infix.mono _ _ _ _ | exact spec_l1Rd_off.mono _ _ _ _ _ | exact LeO.refl _ | exact LeO.none _ | refine LeO.ite ?_ ?_ | refine LeO.bind ?_ (fun _ => ?_))
   | exact spec_Compiled.mono _ _
   | exact spec_l1Rd_infix.mono _ _ _ _
   | exact spec_l1Rd_off.mono _ _ _ _ _
   | exact LeO.none _
   | refine LeO.ite ?_ ?_
   | refine LeO.bind ?_ (fun _ => ?_)
theorem spec_l1Rd_expr.calls (k:Nat) (g:Nat) (s0_0:List Int) (s0_1:Int) (r1:List (S43)) (r2:Int) (w0 w:World) (hI:IsS61 w0 w g s0_0 s0_1) (hB:Below w0.heap.size w0 w) (h:spec_l1Rd_expr.f k s0_0 s0_1 = some (r1,r2)) :
  Calls Tryz.prog 28 #[.pointer (some ⟨g,0,none⟩)] w fun e w' => ∃ v0_:Value,e = .returned (v0_) ∧ Kd.R k43 43 w' w.heap.size (fun _ => True) v0_ r1 ∧ IsS61 w0 w' g s0_0 r2 ∧ Below w0.heap.size w0 w' ∧ KeepBut w w' g none:=by
 have hu43:=Tryz.underlying43
 have HI0:=Aside0.mk hI
 have HK:=Aside0.mk (KeepBut.refl w g none)
 have HL:=Aside0.mk hB.size
 clear hI
 have HW0:=Aside0.mk hB.size
 have HB:=Aside0.mk hB
 clear hB
 have H:=h;unfold spec_l1Rd_expr.f at H
 clear h
 replace H:=Option.bind_eq_some_iff.mp H
 obtain ⟨⟨t177,t178⟩,A20,H⟩:=H
 try dsimp -simprocs -eta only at H
 have A2:=Aside0.mk A20
 clear A20
 replace H:=Option.bind_eq_some_iff.mp H
 obtain ⟨⟨t179,t180⟩,A30,H⟩:=H
 try dsimp -simprocs -eta only at H
 have A3:=Aside0.mk A30
 clear A30
 by_cases c4:t180 = true
 ·subst c4
  rewrite [if_pos rfl] at H
  replace H:=Option.bind_eq_some_iff.mp H
  obtain ⟨⟨t186,t187⟩,A50,H⟩:=H
  try dsimp -simprocs -eta only at H
  have A5:=Aside0.mk A50
  clear A50
  by_cases c6:t186 = true
  ·subst c6
   rewrite [if_pos rfl] at H
   replace H:=Option.bind_eq_some_iff.mp H
   obtain ⟨⟨t188,t189⟩,A70,H⟩:=H
   try dsimp -simprocs -eta only at H
   have A7:=Aside0.mk A70
   clear A70
   replace H:=Option.bind_eq_some_iff.mp H
   obtain ⟨⟨t190,t191⟩,A80,H⟩:=H
   try dsimp -simprocs -eta only at H
   have A8:=Aside0.mk A80
   clear A80
   by_cases c9:0 ≤ t188
   rotate_left
   ·rw [if_neg c9] at H
    exact absurd H (by simp)
   rw [if_pos c9] at H
   have c9b0:=decide_eq_true c9
   clear c9
   by_cases c10:t188 < (t179.length:Int)
   rotate_left
   ·rw [if_neg c10] at H
    exact absurd H (by simp)
   rw [if_pos c10] at H
   have c10b0:=decide_eq_true c10
   clear c10
   obtain ⟨y192,hy192⟩:∃ y_:List (S43),y_ = (t179.set (t188:Int).toNat (⟨t190,(rd_T43 t179 t188).f1,(rd_T43 t179 t188).f2⟩:S43)):=⟨_,rfl⟩
   replace H:(some (y192,t191)) = some (r1,r2):=by first | (rw [hy192];exact H) | exact H
   have Ny192:=Aside0.mk hy192
   clear hy192
   simp only [Option.some.injEq,Prod.mk.injEq] at H
   obtain ⟨rfl,rfl⟩:=H
   go_enter Tryz.func28,Tryz.ntmps28
   go_wp2_with (first | ((with_reducible refine gate_callee (f:=44) rfl ?_);refine goesL_ (some 7) rfl rfl Tryz.func44 (by kernel_rfl) rfl #[.pointer (some ⟨g,0,none⟩),.int .i64 1] rfl q22_ ?_;(with_reducible refine (spec_l1Rd_infix.calls k g s0_0 s0_1 1 t177 t178 w0 _ ?side1 ?side2 A2.out).mono ?_);(case side1 => exact q58_);(case side2 => exact q50_);rintro e w12 ⟨rfl,hi,hb,hk⟩;refine ⟨_,rfl,?_⟩;have n0_:=Aside0.mk (KeepBut.trans q19_ hk (.inl rfl));have n1_:=Aside0.mk (hb);have n2_:=Aside0.mk (hi);clear HK;clear HB;clear HI0;have HK:=n0_;have HB:=n1_;have HI0:=n2_;clear n0_ n1_ n2_;(try clear hb);(try clear hk);(try clear hi)) | ((with_reducible refine gate_callee (f:=43) rfl ?_);refine goesL_ (some 8) rfl rfl Tryz.func43 (by kernel_rfl) rfl #[.string t177] rfl q22_ ?_;(with_reducible refine (spec_Compiled.calls k t177 t179 true _ A3.out).mono ?_);rintro e w13 ⟨v181,rfl,ho0,hb⟩;refine ⟨_,rfl,?_⟩;have n0_:=Aside0.mk (Kd.R_lower ho0 (keep_size (w:=w) (g:=g) (row:=none) q19_));have n1_:=Aside0.mk (IsS61.below q18_ hb);have n2_:=Aside0.mk (KeepBut.trans q19_ (KeepBut.of_below hb g none) (.inl rfl));have n3_:=Aside0.mk (below_step q9_ hb);clear HI0;clear HK;clear HB;have HO182:=n0_;have HI0:=n1_;have HK:=n2_;have HB:=n3_;clear n0_ n1_ n2_ n3_;(try clear hb);(try clear ho0)) | ((with_reducible refine gate_callee (f:=45) rfl ?_);refine goesL_ (some 16) rfl rfl Tryz.func45 (by kernel_rfl) rfl #[.pointer (some ⟨g,0,none⟩),.int .i64 20] rfl q22_ ?_;(with_reducible refine (spec_l1Rd_once.calls g s0_0 t178 20 true t187 w0 _ ?side1 ?side2 A5.out).mono ?_);(case side1 => exact q58_);(case side2 => exact q50_);rintro e w14 ⟨rfl,hi,hb,hk⟩;refine ⟨_,rfl,?_⟩;have n0_:=Aside0.mk (Kd.R_mono (Kd.R_keep (IsS61.apart (show IsS61 w0 _ g s0_0 t178 from by repeat (first | (with_reducible first | exact HI0.out | apply IsS61.alloc | apply IsS61.drewN | apply IsS61.drew | apply IsS61.set_1) | exact HI0.out)) q34_ (by decide)) hk (fun _ h => h.2)) (fun _ h => h.1));have n1_:=Aside0.mk (KeepBut.trans q19_ hk (.inl rfl));have n2_:=Aside0.mk (hb);have n3_:=Aside0.mk (hi);clear HO182;clear HK;clear HB;clear HI0;have HO182:=n0_;have HK:=n1_;have HB:=n2_;have HI0:=n3_;clear n0_ n1_ n2_ n3_;(try clear hb);(try clear hk);(try clear hi);obtain ⟨Ao15,co15,eo15⟩:=Kd.R_slice HO182.out;subst eo15) | ((with_reducible refine gate_callee (f:=42) rfl ?_);refine goesL_ (some 21) rfl rfl Tryz.func42 (by kernel_rfl) rfl #[.pointer (some ⟨g,0,none⟩),.int .i64 (t179.length:Int)] rfl q22_ ?_;(with_reducible refine (spec_l1Rd_below.calls g s0_0 t187 (t179.length:Int) t188 t189 w0 _ ?side1 ?side2 A7.out).mono ?_);(case side1 => exact q58_);(case side2 => exact q50_);rintro e w16 ⟨rfl,hi,hb,hk⟩;refine ⟨_,rfl,?_⟩;have n0_:=Aside0.mk (Kd.R_mono (Kd.R_keep (IsS61.apart (show IsS61 w0 _ g s0_0 t187 from by repeat (first | (with_reducible first | exact HI0.out | apply IsS61.alloc | apply IsS61.drewN | apply IsS61.drew | apply IsS61.set_1) | exact HI0.out)) q34_ (by decide)) hk (fun _ h => h.2)) (fun _ h => h.1));have n1_:=Aside0.mk (KeepBut.trans q19_ hk (.inl rfl));have n2_:=Aside0.mk (hb);have n3_:=Aside0.mk (hi);clear HO182;clear HK;clear HB;clear HI0;have HO182:=n0_;have HK:=n1_;have HB:=n2_;have HI0:=n3_;clear n0_ n1_ n2_ n3_;(try clear hb);(try clear hk);(try clear hi)) | ((with_reducible refine gate_callee (f:=46) rfl ?_);refine goesL_ (some 23) rfl rfl Tryz.func46 (by kernel_rfl) rfl #[.pointer (some ⟨g,0,none⟩),.int .i64 1,.int .i64 17] rfl q22_ ?_;(with_reducible refine (spec_l1Rd_off.calls k g s0_0 t189 1 17 t190 t191 w0 _ ?side1 ?side2 A8.out).mono ?_);(case side1 => exact q58_);(case side2 => exact q50_);rintro e w17 ⟨rfl,hi,hb,hk⟩;refine ⟨_,rfl,?_⟩;have n0_:=Aside0.mk (Kd.R_mono (Kd.R_keep (IsS61.apart (show IsS61 w0 _ g s0_0 t189 from by repeat (first | (with_reducible first | exact HI0.out | apply IsS61.alloc | apply IsS61.drewN | apply IsS61.drew | apply IsS61.set_1) | exact HI0.out)) q34_ (by decide)) hk (fun _ h => h.2)) (fun _ h => h.1));have n1_:=Aside0.mk (KeepBut.trans q19_ hk (.inl rfl));have n2_:=Aside0.mk (hb);have n3_:=Aside0.mk (hi);clear HO182;clear HK;clear HB;clear HI0;have HO182:=n0_;have HK:=n1_;have HB:=n2_;have HI0:=n3_;clear n0_ n1_ n2_ n3_;(try clear hb);(try clear hk);(try clear hi);have p11:0 ≤ (t188:Int):=of_decide_eq_true q46_;have q11:(t188:Int) < ((t179.length:Int):Int):=of_decide_eq_true q46_;obtain ⟨go11,co11,eo11,gb11,gl11,cl11,HG11⟩:=Kd.R_form HO182.out (by omega);(first | cases eo11 | (injection eo11 with ea_ en_ ec_;(first | subst ea_ | (injection ea_ with ea_;subst ea_));subst ec_;clear en_));have GB11:=Aside0.mk gb11;have GG11:=Aside0.mk HG11;clear gb11 gl11 HG11;obtain ⟨ce11,hcl11,hM11,hcc11,hfr11⟩:=Kd.R_elem HO182.out z43 (t188:Int) p11 q11;obtain rfl:=k43_openM hM11;have hx11_0:w17.cell? ⟨go11,(t188:Int).toNat * 3,none⟩ = some (.int .i64 ((rd_T43 t179 t188).f0)):=hcc11 0 _ rfl;have hx11_1:w17.cell? ⟨go11,(t188:Int).toNat * 3 + 1,none⟩ = some (.int .i64 ((rd_T43 t179 t188).f1)):=hcc11 1 _ rfl;have hx11_2:w17.cell? ⟨go11,(t188:Int).toNat * 3 + 2,none⟩ = some (.string ((rd_T43 t179 t188).f2)):=hcc11 2 _ rfl;have hf11_0:w17.frozen? ⟨go11,(t188:Int).toNat * 3,none⟩ = false:=hfr11 0;have hf11_1:w17.frozen? ⟨go11,(t188:Int).toNat * 3 + 1,none⟩ = false:=hfr11 1;have hf11_2:w17.frozen? ⟨go11,(t188:Int).toNat * 3 + 2,none⟩ = false:=hfr11 2;clear hcl11 hcc11 hfr11 hM11;replace p11:=eq_true p11;replace q11:=eq_true q11;have HX18:=Aside0.mk (show Kd.R k43 43 w17 w.heap.size (fun _ => True) (.slice (some ⟨go11,0,none⟩) t179.length co15) t179 from q34_);obtain ⟨ce18,hcl18,hM18,hcc18,hfr18⟩:=Kd.R_elem HX18.out z43 (t188:Int) (of_decide_eq_true q46_) (by have h_:(t188:Int) < ((t179.length:Int):Int):=of_decide_eq_true q46_;first | exact h_ | (have e_:=(Kd.R_reads' HO182.out).1;omega) | simpa using h_);obtain rfl:=k43_openM hM18;have HP18:=Kd.R_seg HX18.out (t188:Int) (of_decide_eq_true q46_) (by have h_:(t188:Int) < ((t179.length:Int):Int):=of_decide_eq_true q46_;first | exact h_ | (have e_:=(Kd.R_reads' HO182.out).1;omega) | simpa using h_) (seg:=[.int .i64 t190]) (j:=0) hcl18 hcc18 (show 1 ≤ 3 from by decide) (x':=(⟨t190,(rd_T43 t179 t188).f1,(rd_T43 t179 t188).f2⟩:S43)) (k43_mkM _ _ _ (⟨t190,(rd_T43 t179 t188).f1,(rd_T43 t179 t188).f2⟩:S43) ) (fun _ hk => hk);have hx18_0:=hcc18 0 _ rfl;(try simp only [show (k43).sz = 3 from rfl,Nat.mul_one,Nat.add_zero] at hx18_0);have hf18_0:=hfr18 0;(try simp only [show (k43).sz = 3 from rfl,Nat.mul_one,Nat.add_zero] at hf18_0);clear hcl18 hcc18 hfr18 hM18) | ((with_reducible refine gate_store (t:=2) (p:=25) rfl ?_);refine store_event (t:=2) (p:=25) (v:=?vo_w19) (w1:=(w17.setCell ⟨go11,(t188:Int).toNat * 3,none⟩ (.int .i64 t190))) ?hg ?ho ?hn ?hr ?_;(case ho => rfl);(case hg => rfl);(case hn => rfl);(case hr => exact q59_);intro w19 hw;have hg:w17.grownBy w19 (some go11):=(by rw [hw];exact HP18.2);have hp_:Kd.R k43 43 w19 w.heap.size (fun _ => True) (.slice (some ⟨go11,0,none⟩) t179.length co15) y192:=(by rw [hw,Ny192.out];exact HP18.1);clear HP18;have n0_:=Aside0.mk (IsS61.grown q18_ hg (IsS61.own_ne HI0.out HO182.out (by decide)));have n1_:=Aside0.mk (hp_);have n2_:=Aside0.mk ((by rw [hw];exact below_set (HB.out) (Nat.le_trans HL.out GB11.out):Below w0.heap.size w0 w19));have n3_:=Aside0.mk (KeepBut.trans q19_ (KeepBut.of_grown hg g) (Kd.R_base2 HO182.out));clear HI0;clear HO182;clear HB;clear HK;have HI0:=n0_;have HO182:=n1_;have HB:=n2_;have HK:=n3_;clear n0_ n1_ n2_ n3_;clear hg hw hp_))
   go_ret
   exact ⟨_,q26_,q34_,q18_,q9_,q19_⟩
  replace c6:=Bool.eq_false_iff.mpr c6
  subst c6
  rewrite [if_neg (show ¬ (false = true) by decide)] at H
  simp only [Option.some.injEq,Prod.mk.injEq] at H
  obtain ⟨rfl,rfl⟩:=H
  go_enter Tryz.func28,Tryz.ntmps28
  go_wp2_with (first | ((with_reducible refine gate_callee (f:=44) rfl ?_);refine goesL_ (some 7) rfl rfl Tryz.func44 (by kernel_rfl) rfl #[.pointer (some ⟨g,0,none⟩),.int .i64 1] rfl q22_ ?_;(with_reducible refine (spec_l1Rd_infix.calls k g s0_0 s0_1 1 t177 t178 w0 _ ?side1 ?side2 A2.out).mono ?_);(case side1 => exact q58_);(case side2 => exact q50_);rintro e w20 ⟨rfl,hi,hb,hk⟩;refine ⟨_,rfl,?_⟩;have n0_:=Aside0.mk (KeepBut.trans q19_ hk (.inl rfl));have n1_:=Aside0.mk (hb);have n2_:=Aside0.mk (hi);clear HK;clear HB;clear HI0;have HK:=n0_;have HB:=n1_;have HI0:=n2_;clear n0_ n1_ n2_;(try clear hb);(try clear hk);(try clear hi)) | ((with_reducible refine gate_callee (f:=43) rfl ?_);refine goesL_ (some 8) rfl rfl Tryz.func43 (by kernel_rfl) rfl #[.string t177] rfl q22_ ?_;(with_reducible refine (spec_Compiled.calls k t177 t179 true _ A3.out).mono ?_);rintro e w21 ⟨v181,rfl,ho0,hb⟩;refine ⟨_,rfl,?_⟩;have n0_:=Aside0.mk (Kd.R_lower ho0 (keep_size (w:=w) (g:=g) (row:=none) q19_));have n1_:=Aside0.mk (IsS61.below q18_ hb);have n2_:=Aside0.mk (KeepBut.trans q19_ (KeepBut.of_below hb g none) (.inl rfl));have n3_:=Aside0.mk (below_step q9_ hb);clear HI0;clear HK;clear HB;have HO182:=n0_;have HI0:=n1_;have HK:=n2_;have HB:=n3_;clear n0_ n1_ n2_ n3_;(try clear hb);(try clear ho0)) | ((with_reducible refine gate_callee (f:=45) rfl ?_);refine goesL_ (some 16) rfl rfl Tryz.func45 (by kernel_rfl) rfl #[.pointer (some ⟨g,0,none⟩),.int .i64 20] rfl q22_ ?_;(with_reducible refine (spec_l1Rd_once.calls g s0_0 t178 20 false t187 w0 _ ?side1 ?side2 A5.out).mono ?_);(case side1 => exact q58_);(case side2 => exact q50_);rintro e w22 ⟨rfl,hi,hb,hk⟩;refine ⟨_,rfl,?_⟩;have n0_:=Aside0.mk (Kd.R_mono (Kd.R_keep (IsS61.apart (show IsS61 w0 _ g s0_0 t178 from by repeat (first | (with_reducible first | exact HI0.out | apply IsS61.alloc | apply IsS61.drewN | apply IsS61.drew | apply IsS61.set_1) | exact HI0.out)) q34_ (by decide)) hk (fun _ h => h.2)) (fun _ h => h.1));have n1_:=Aside0.mk (KeepBut.trans q19_ hk (.inl rfl));have n2_:=Aside0.mk (hb);have n3_:=Aside0.mk (hi);clear HO182;clear HK;clear HB;clear HI0;have HO182:=n0_;have HK:=n1_;have HB:=n2_;have HI0:=n3_;clear n0_ n1_ n2_ n3_;(try clear hb);(try clear hk);(try clear hi)))
  go_ret
  exact ⟨_,q26_,q34_,q18_,q9_,q19_⟩
 replace c4:=Bool.eq_false_iff.mpr c4
 subst c4
 rewrite [if_neg (show ¬ (false = true) by decide)] at H
 obtain ⟨y183,hy183⟩:∃ y_:List (S43),y_ = (([(⟨1,5,(⟨#[]⟩:ByteArray)⟩:S43)]:List (S43))):=⟨_,rfl⟩
 replace H:(some (y183,t178)) = some (r1,r2):=by first | (rw [hy183];exact H) | exact H
 have Ny183:=Aside0.mk hy183
 clear hy183
 simp only [Option.some.injEq,Prod.mk.injEq] at H
 obtain ⟨rfl,rfl⟩:=H
 go_enter Tryz.func28,Tryz.ntmps28
 go_wp2_with (first | ((with_reducible refine gate_callee (f:=44) rfl ?_);refine goesL_ (some 7) rfl rfl Tryz.func44 (by kernel_rfl) rfl #[.pointer (some ⟨g,0,none⟩),.int .i64 1] rfl q22_ ?_;(with_reducible refine (spec_l1Rd_infix.calls k g s0_0 s0_1 1 t177 t178 w0 _ ?side1 ?side2 A2.out).mono ?_);(case side1 => exact q58_);(case side2 => exact q50_);rintro e w23 ⟨rfl,hi,hb,hk⟩;refine ⟨_,rfl,?_⟩;have n0_:=Aside0.mk (KeepBut.trans q19_ hk (.inl rfl));have n1_:=Aside0.mk (hb);have n2_:=Aside0.mk (hi);clear HK;clear HB;clear HI0;have HK:=n0_;have HB:=n1_;have HI0:=n2_;clear n0_ n1_ n2_;(try clear hb);(try clear hk);(try clear hi)) | ((with_reducible refine gate_callee (f:=43) rfl ?_);refine goesL_ (some 8) rfl rfl Tryz.func43 (by kernel_rfl) rfl #[.string t177] rfl q22_ ?_;(with_reducible refine (spec_Compiled.calls k t177 t179 false _ A3.out).mono ?_);rintro e w24 ⟨v181,rfl,ho0,hb⟩;refine ⟨_,rfl,?_⟩;have n0_:=Aside0.mk (Kd.R_lower ho0 (keep_size (w:=w) (g:=g) (row:=none) q19_));have n1_:=Aside0.mk (IsS61.below q18_ hb);have n2_:=Aside0.mk (KeepBut.trans q19_ (KeepBut.of_below hb g none) (.inl rfl));have n3_:=Aside0.mk (below_step q9_ hb);clear HI0;clear HK;clear HB;have HO182:=n0_;have HI0:=n1_;have HK:=n2_;have HB:=n3_;clear n0_ n1_ n2_ n3_;(try clear hb);(try clear ho0)) | ((with_reducible refine gate_dst (N:=14) rfl ?_);refine Kd.R_lit k43 _ 43 ?hg (N:=14) ?hd (xs:=([(⟨1,5,(⟨#[]⟩:ByteArray)⟩:S43)]:List (S43))) (inner:=[.int .i64 1,.int .i64 5,.string (⟨#[]⟩:ByteArray)]) (ok:=fun _ => True) (okp:=fun _ => True) ?hr ?hp (fun _ hk => hk) trivial (Below.refl _ _) (Nat.le_refl _) (by simp) ?_;(case hd => rfl);(case hg => rfl);(case hr => exact q59_);(case hp => exact (Reps.c3 (show Kd.M k43 _ _ _ (⟨1,5,(⟨#[]⟩:ByteArray)⟩:S43) [.int .i64 1,.int .i64 5,.string (⟨#[]⟩:ByteArray)] from (k43_mkM _ _ _ (⟨1,5,(⟨#[]⟩:ByteArray)⟩:S43) )) (Reps.none _ _)));intro v184 w25 ho26 hb hg_ hnew_;clear hg_ hnew_;(first | rw [← Ny183.out] at ho26 | (simp only [Int.reduceToNat] at ho26;rw [← Ny183.out] at ho26));have n0_:=Aside0.mk (Kd.R_elder' q34_ (Kd.R_base ho26) hb);have n1_:=Aside0.mk (Kd.R_lower (Kd.R_new' ho26 (Kd.R_lt q34_)) (keep_size (w:=w) (g:=g) (row:=none) q19_));have n2_:=Aside0.mk (IsS61.below q18_ hb);have n3_:=Aside0.mk (KeepBut.trans q19_ (KeepBut.of_below hb g none) (.inl rfl));have n4_:=Aside0.mk (below_step q9_ hb);clear HO182;clear HI0;clear HK;clear HB;have HO182:=n0_;have HO185:=n1_;have HI0:=n2_;have HK:=n3_;have HB:=n4_;clear n0_ n1_ n2_ n3_ n4_;clear hb ho26))
 go_ret
 exact ⟨_,q26_,by (with_reducible repeat (first | apply Kd.R_alloc | apply Kd.R_drewN | apply Kd.R_drew));exact Kd.R_mono HO185.out (fun _ hk => trivial),q18_,q9_,q19_⟩
def spec_DrawExprOk.f (k:Nat) (l0:List Int):Option ((List (S43))):=(spec_l1Open.f l0).bind fun bt193 => ((spec_l1Rd_expr.f k bt193.1 bt193.2).bind fun bt196 => (some bt196.1))
theorem spec_DrawExprOk.mono:∀ a0 k,LeO (spec_DrawExprOk.f k a0) (spec_DrawExprOk.f (k + 1) a0):=by
 intro a0 k
 unfold spec_DrawExprOk.f
 repeat' first
   | (with_reducible first | exact spec_l1Rd_expr.mono _ _ _ | exact LeO.refl _ | exact LeO.none _ | refine LeO.ite ?_ ?_ | refine LeO.bind ?_ (fun _ => ?_))
   | exact spec_l1Rd_expr.mono _ _ _
   | exact LeO.none _
   | refine LeO.ite ?_ ?_
   | refine LeO.bind ?_ (fun _ => ?_)
theorem spec_DrawExprOk.calls (k:Nat) (A0:Option Addr) (c0:Nat) (l0:List Int) (r:List (S43)) (w:World) (hr0:Kd.C (Kd.int .u8) w A0 l0.length l0) (hc0:l0.length ≤ c0) (h:spec_DrawExprOk.f k l0 = some r) :
  Calls Tryz.prog 14 #[.slice A0 l0.length c0] w fun e w' => ∃ v0_:Value,e = .returned (v0_) ∧ Kd.R k43 43 w' w.heap.size (fun _ => True) v0_ r ∧ Below w.heap.size w w':=by
 have HR0:=Aside0.mk hr0
 have HC0:=Aside0.mk hc0
 clear hr0 hc0
 have HB:=Aside0.mk (Below.refl w.heap.size w)
 have H:=h;unfold spec_DrawExprOk.f at H
 clear h
 replace H:=Option.bind_eq_some_iff.mp H
 obtain ⟨⟨t193,t194⟩,A20,H⟩:=H
 try dsimp -simprocs -eta only at H
 have A2:=Aside0.mk A20
 clear A20
 replace H:=Option.bind_eq_some_iff.mp H
 obtain ⟨⟨t196,t199⟩,A30,H⟩:=H
 replace H:(some t196) = some r:=H
 have A3:=Aside0.mk A30
 clear A30
 obtain rfl:=Option.some.inj H
 go_enter Tryz.func14,Tryz.ntmps14
 go_wp2_with (first | ((with_reducible refine gate_callee (f:=26) rfl ?_);refine goesL_ (some 5) rfl rfl Tryz.func26 (by kernel_rfl) rfl #[.slice A0 l0.length c0] rfl q22_ ?_;(with_reducible refine (spec_l1Open.calls _ _ l0 t193 t194 w _ ?side1 ?side2 ?side3 A2.out).mono ?_);(case side1 => repeat (first | (with_reducible first | exact HB.out | apply below_alloc | apply pw_below_drewN | apply below_drew1) | exact HB.out));(case side2 => exact HR0.out);(case side3 => exact HC0.out);rintro e w4 ⟨g195,rfl,hi,hb,hb2⟩;refine ⟨_,rfl,?_⟩;have n0_:=Aside0.mk (hb);have n1_:=Aside0.mk (hi);clear HB;have HB:=n0_;have HI195:=n1_;clear n0_ n1_;(try clear hb);(try clear hb2);(try clear hi)) | ((with_reducible refine gate_callee (f:=28) rfl ?_);refine goesL_ (some 7) rfl rfl Tryz.func28 (by kernel_rfl) rfl #[.pointer (some ⟨g195,0,none⟩)] rfl q22_ ?_;(with_reducible refine (spec_l1Rd_expr.calls k g195 t193 t194 t196 t199 w _ ?side1 ?side2 A3.out).mono ?_);(case side1 => repeat (first | (with_reducible first | exact HI195.out | apply IsS61.alloc | apply IsS61.drewN | apply IsS61.drew | apply IsS61.set_1) | exact HI195.out));(case side2 => repeat (first | (with_reducible first | exact HB.out | apply below_alloc | apply pw_below_drewN | apply below_drew1 | refine below_set ?_ (IsS61.ge HI195.out)) | exact HB.out));rintro e w5 ⟨v197,rfl,ho0,hi,hb,hk⟩;refine ⟨_,rfl,?_⟩;have n0_:=Aside0.mk (Kd.R_lower ho0 (below_size q7_));have n1_:=Aside0.mk (hb);have n2_:=Aside0.mk (hi);clear HB;clear HI195;have HO198:=n0_;have HB:=n1_;have HI195:=n2_;clear n0_ n1_ n2_;(try clear hb);(try clear hk);(try clear hi);(try clear ho0)))
 go_ret
 exact ⟨_,q26_,by (with_reducible repeat (first | apply Kd.R_alloc | apply Kd.R_drewN | apply Kd.R_drew));exact HO198.out,q7_⟩
def spec_DrawExprText.f (k:Nat) (l0:List Int):Option ((List (S43))):=(spec_DrawExprOk.f k l0).bind fun t200 => (some t200)
theorem spec_DrawExprText.mono:∀ a0 k,LeO (spec_DrawExprText.f k a0) (spec_DrawExprText.f (k + 1) a0):=by
 intro a0 k
 unfold spec_DrawExprText.f
 repeat' first
   | (with_reducible first | exact spec_DrawExprOk.mono _ _ | exact LeO.refl _ | exact LeO.none _ | refine LeO.ite ?_ ?_ | refine LeO.bind ?_ (fun _ => ?_))
   | exact spec_DrawExprOk.mono _ _
   | exact LeO.none _
   | refine LeO.ite ?_ ?_
   | refine LeO.bind ?_ (fun _ => ?_)
theorem spec_DrawExprText.calls (k:Nat) (A0:Option Addr) (c0:Nat) (l0:List Int) (r:List (S43)) (w:World) (hr0:Kd.C (Kd.int .u8) w A0 l0.length l0) (hc0:l0.length ≤ c0) (h:spec_DrawExprText.f k l0 = some r) :
  Calls Tryz.prog 5 #[.slice A0 l0.length c0] w fun e w' => ∃ v0_:Value,e = .returned (v0_) ∧ Kd.R k43 43 w' w.heap.size (fun _ => True) v0_ r ∧ Below w.heap.size w w':=by
 have HR0:=Aside0.mk hr0
 have HC0:=Aside0.mk hc0
 clear hr0 hc0
 have HB:=Aside0.mk (Below.refl w.heap.size w)
 have H:=h;unfold spec_DrawExprText.f at H
 clear h
 replace H:=Option.bind_eq_some_iff.mp H
 obtain ⟨t200,A20,H⟩:=H
 have A2:=Aside0.mk A20
 clear A20
 obtain rfl:=Option.some.inj H
 go_enter Tryz.func5,Tryz.ntmps5
 go_wp2_with (first | ((with_reducible refine gate_callee (f:=14) rfl ?_);refine goesL_ (some 4) rfl rfl Tryz.func14 (by kernel_rfl) rfl #[.slice A0 l0.length c0] rfl q22_ ?_;(with_reducible refine (spec_DrawExprOk.calls k _ _ l0 t200 _ ?side1 ?side2 A2.out).mono ?_);(case side1 => exact q57_);(case side2 => exact HC0.out);rintro e w3 ⟨v201,rfl,ho0,hb⟩;refine ⟨_,rfl,?_⟩;have n0_:=Aside0.mk (Kd.R_lower ho0 (below_size q24_));have n1_:=Aside0.mk (below_step q24_ hb);clear HB;have HO202:=n0_;have HB:=n1_;clear n0_ n1_;(try clear hb);(try clear ho0)))
 go_ret
 exact ⟨_,q26_,by (with_reducible repeat (first | apply Kd.R_alloc | apply Kd.R_drewN | apply Kd.R_drew));exact HO202.out,q24_⟩
def impl_within.f (a0:Int) (a1:Int) (a2:Int):Option (Bool):=if a0 ≥ a1 then (some (decide (a0 ≤ a2))) else (some false)
theorem impl_within.calls (a0:Int) (a1:Int) (a2:Int) (r:Bool) (w:World) (h:impl_within.f a0 a1 a2 = some r) :
  Calls Tryz.prog 39 #[.int .i64 a0,.int .i64 a1,.int .i64 a2] w fun e w' => e = .returned (.bool r) ∧ Drawn0 w w':=by
 have H:=h;unfold impl_within.f at H
 clear h
 by_cases c4:a0 ≥ a1
 ·rw [if_pos c4] at H
  have c4b0:decide (a1 ≤ a0) = true:=decide_eq_true c4
  clear c4
  obtain rfl:=Option.some.inj H
  go_enter Tryz.func39,Tryz.ntmps39
  go_wp2
  go_ret
  exact ⟨q31_,q44_⟩
 rw [if_neg c4] at H
 have c4b0:decide (a1 ≤ a0) = false:=decide_eq_false c4
 clear c4
 obtain rfl:=Option.some.inj H
 go_enter Tryz.func39,Tryz.ntmps39
 go_wp2
 go_ret
 exact ⟨q31_,q44_⟩
def impl_isWord.f (a0:Int):Option (Bool):=(impl_within.f a0 0 65535).bind fun t203 => (some t203)
theorem impl_isWord.calls (a0:Int) (r:Bool) (w:World) (h:impl_isWord.f a0 = some r) :
  Calls Tryz.prog 37 #[.int .i64 a0] w fun e w' => e = .returned (.bool r) ∧ Drawn0 w w':=by
 have H:=h;unfold impl_isWord.f at H
 clear h
 replace H:=Option.bind_eq_some_iff.mp H
 obtain ⟨t203,A20,H⟩:=H
 have A2:=Aside0.mk A20
 clear A20
 obtain rfl:=Option.some.inj H
 go_enter Tryz.func37,Tryz.ntmps37
 go_wp2_with (first | ((with_reducible refine gate_callee (f:=39) rfl ?_);refine goesL_ (some 4) rfl rfl Tryz.func39 (by kernel_rfl) rfl #[.int .i64 a0,.int .i64 0,.int .i64 65535] rfl q22_ ?_;(with_reducible refine (impl_within.calls a0 0 65535 t203 _ A2.out).mono ?_);rintro e w' ⟨rfl,⟨nd,rfl⟩⟩;refine ⟨_,rfl,?_⟩))
 go_ret
 exact ⟨q31_,q44_⟩
def impl_isDigit.f (a0:Int):Option (Bool):=if a0 ≥ 48 then (some (decide (a0 ≤ 57))) else (some false)
theorem impl_isDigit.calls (a0:Int) (r:Bool) (w:World) (h:impl_isDigit.f a0 = some r) :
  Calls Tryz.prog 61 #[.int .u8 a0] w fun e w' => e = .returned (.bool r) ∧ Drawn0 w w':=by
 have H:=h;unfold impl_isDigit.f at H
 clear h
 by_cases c2:a0 ≥ 48
 ·rw [if_pos c2] at H
  have c2b0:decide (48 ≤ a0) = true:=decide_eq_true c2
  clear c2
  obtain rfl:=Option.some.inj H
  go_enter Tryz.func61,Tryz.ntmps61
  go_wp2
  go_ret
  exact ⟨q31_,q44_⟩
 rw [if_neg c2] at H
 have c2b0:decide (48 ≤ a0) = false:=decide_eq_false c2
 clear c2
 obtain rfl:=Option.some.inj H
 go_enter Tryz.func61,Tryz.ntmps61
 go_wp2
 go_ret
 exact ⟨q31_,q44_⟩
def impl_isSmall.f (a0:Int):Option (Bool):=if a0 ≥ 97 then (some (decide (a0 ≤ 122))) else (some false)
theorem impl_isSmall.calls (a0:Int) (r:Bool) (w:World) (h:impl_isSmall.f a0 = some r) :
  Calls Tryz.prog 62 #[.int .u8 a0] w fun e w' => e = .returned (.bool r) ∧ Drawn0 w w':=by
 have H:=h;unfold impl_isSmall.f at H
 clear h
 by_cases c2:a0 ≥ 97
 ·rw [if_pos c2] at H
  have c2b0:decide (97 ≤ a0) = true:=decide_eq_true c2
  clear c2
  obtain rfl:=Option.some.inj H
  go_enter Tryz.func62,Tryz.ntmps62
  go_wp2
  go_ret
  exact ⟨q31_,q44_⟩
 rw [if_neg c2] at H
 have c2b0:decide (97 ≤ a0) = false:=decide_eq_false c2
 clear c2
 obtain rfl:=Option.some.inj H
 go_enter Tryz.func62,Tryz.ntmps62
 go_wp2
 go_ret
 exact ⟨q31_,q44_⟩
end Go.Proofs.YtabbdfchibjndaaGreatDoor.QFnExprTexts
