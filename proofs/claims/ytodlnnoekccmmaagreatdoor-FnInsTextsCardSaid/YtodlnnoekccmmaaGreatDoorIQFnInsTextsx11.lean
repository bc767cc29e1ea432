/- The machine's side of a law,written by a program of this session for this claim. -/
import Derived.Test.YtodlnnoekccmmaaGreatDoorIQq
import Derived.Test.YtodlnnoekccmmaaGreatDoorIQFnInsTextsx0
import Derived.Test.YtodlnnoekccmmaaGreatDoorIQFnInsTextsx2
import Derived.Test.YtodlnnoekccmmaaGreatDoorIQFnInsTextsx4
import Derived.Test.YtodlnnoekccmmaaGreatDoorIQFnInsTextsx7
import Derived.Test.YtodlnnoekccmmaaGreatDoorIQFnInsTextsx10
namespace Go.Proofs.YtodlnnoekccmmaaGreatDoor.QFnInsTexts
open Go.Proofs.YtodlnnoekccmmaaGreatDoor.Qq
open Go.RowKit Go.Proofs.YtodlnnoekccmmaaGreatDoor.LibX Go.Proofs.YtodlnnoekccmmaaGreatDoor.LibE Go.Proofs.YtodlnnoekccmmaaGreatDoor.LibCB Go.Proofs.YtodlnnoekccmmaaGreatDoorW.PrintWords Go.Proofs.YtodlnnoekccmmaaGreatDoorW.PrintLast Go.Proofs.YtodlnnoekccmmaaGreatDoorW.PrintMore
attribute [local go_sem] max2_int min2_int max_two min_two max_three min_three max_four min_four   -- for this text's walks alone
set_option maxHeartbeats 8000000
set_option maxRecDepth 100000
set_option linter.unusedVariables false
set_option linter.unusedSimpArgs false
def spec_l1Rd_byte.f (s0_0:List Int) (s0_1:Int):Option (Int × Int):=(spec_l1Rd_once.f s0_0 s0_1 2).bind fun bt414 => (if bt414.1 = true then ((some (([0,1,127,128,255,15,16,240]:List Int):List Int)).bind fun y416 => ((spec_l1Rd_below.f s0_0 bt414.2 8).bind fun bt419 => (if 0 ≤ bt419.1 then (if bt419.1 < (y416.length:Int) then (some (rd y416 bt419.1,bt419.2)) else (none)) else (none)))) else ((spec_l1Rd_below.f s0_0 bt414.2 256).bind fun bt422 => (some (bt422.1,bt422.2))))
theorem spec_l1Rd_byte.calls (g:Nat) (s0_0:List Int) (s0_1:Int) (r1:Int) (r2:Int) (w0 w:World) (hI:IsS96 w0 w g s0_0 s0_1) (hB:Below w0.heap.size w0 w) (h:spec_l1Rd_byte.f s0_0 s0_1 = some (r1,r2)) :
  Calls Tryz.prog 104 #[.pointer (some ⟨g,0,none⟩)] w fun e w' => e = .returned (.int .i64 r1) ∧ IsS96 w0 w' g s0_0 r2 ∧ Below w0.heap.size w0 w' ∧ KeepBut w w' g none:=by
 have HI0:=Aside0.mk hI
 have HK:=Aside0.mk (KeepBut.refl w g none)
 have HL:=Aside0.mk hB.size
 clear hI
 have HW0:=Aside0.mk hB.size
 have HB:=Aside0.mk hB
 clear hB
 have H:=h;unfold spec_l1Rd_byte.f at H
 clear h
 replace H:=Option.bind_eq_some_iff.mp H
 obtain ⟨⟨t414,t415⟩,A20,H⟩:=H
 try dsimp -simprocs -eta only at H
 have A2:=Aside0.mk A20
 clear A20
 by_cases c3:t414 = true
 ·subst c3
  rewrite [if_pos rfl] at H
  obtain ⟨y416,hy416⟩:∃ y_:List Int,y_ = (([0,1,127,128,255,15,16,240]:List Int)):=⟨_,rfl⟩
  replace H:((spec_l1Rd_below.f s0_0 t415 8).bind fun bt419 => (if 0 ≤ bt419.1 then (if bt419.1 < (y416.length:Int) then (some (rd y416 bt419.1,bt419.2)) else (none)) else (none))) = some (r1,r2):=by first | (rw [hy416];exact H) | exact H
  have Ny416:=Aside0.mk hy416
  clear hy416
  replace H:=Option.bind_eq_some_iff.mp H
  obtain ⟨⟨t419,t420⟩,A40,H⟩:=H
  try dsimp -simprocs -eta only at H
  have A4:=Aside0.mk A40
  clear A40
  by_cases c5:0 ≤ t419
  rotate_left
  ·rw [if_neg c5] at H
   exact absurd H (by simp)
  rw [if_pos c5] at H
  have c5b0:=decide_eq_true c5
  clear c5
  by_cases c6:t419 < (y416.length:Int)
  rotate_left
  ·rw [if_neg c6] at H
   exact absurd H (by simp)
  rw [if_pos c6] at H
  have c6b0:=decide_eq_true c6
  clear c6
  simp only [Option.some.injEq,Prod.mk.injEq] at H
  obtain ⟨rfl,rfl⟩:=H
  go_enter Tryz.func104,Tryz.ntmps104
  go_wp2_with (first | ((with_reducible refine gate_callee (f:=45) rfl ?_);refine goesL_ (some 4) rfl rfl Tryz.func45 (by kernel_rfl) rfl #[.pointer (some ⟨g,0,none⟩),.int .i64 2] rfl q71_ ?_;(with_reducible refine (spec_l1Rd_once.calls g s0_0 s0_1 2 true t415 w0 _ ?side1 ?side2 A2.out).mono ?_);(case side1 => exact q138_);(case side2 => exact q134_);rintro e w7 ⟨rfl,hi,hb,hk⟩;refine ⟨_,rfl,?_⟩;have n0_:=Aside0.mk (KeepBut.trans q69_ hk (.inl rfl));have n1_:=Aside0.mk (hb);have n2_:=Aside0.mk (hi);clear HK;clear HB;clear HI0;have HK:=n0_;have HB:=n1_;have HI0:=n2_;clear n0_ n1_ n2_;(try clear hb);(try clear hk);(try clear hi)) | ((with_reducible refine gate_dst (N:=5) rfl ?_);refine Kd.R_lit (Kd.int .i64) _ 2 ?hg (N:=5) ?hd (xs:=([0,1,127,128,255,15,16,240]:List Int)) (inner:=[.int .i64 0,.int .i64 1,.int .i64 127,.int .i64 128,.int .i64 255,.int .i64 15,.int .i64 16,.int .i64 240]) (ok:=fun _ => True) (okp:=fun _ => True) ?hr ?hp (fun _ hk => hk) trivial (Below.refl _ _) (Nat.le_refl _) (by simp) ?_;(case hd => rfl);(case hg => rfl);(case hr => exact q139_);(case hp => exact (Reps.one (show Kd.M (Kd.int .i64) _ _ _ 0 [.int .i64 0] from rfl) (Reps.one (show Kd.M (Kd.int .i64) _ _ _ 1 [.int .i64 1] from rfl) (Reps.one (show Kd.M (Kd.int .i64) _ _ _ 127 [.int .i64 127] from rfl) (Reps.one (show Kd.M (Kd.int .i64) _ _ _ 128 [.int .i64 128] from rfl) (Reps.one (show Kd.M (Kd.int .i64) _ _ _ 255 [.int .i64 255] from rfl) (Reps.one (show Kd.M (Kd.int .i64) _ _ _ 15 [.int .i64 15] from rfl) (Reps.one (show Kd.M (Kd.int .i64) _ _ _ 16 [.int .i64 16] from rfl) (Reps.one (show Kd.M (Kd.int .i64) _ _ _ 240 [.int .i64 240] from rfl) (Reps.none _ _))))))))));intro v417 w8 ho9 hb hg_ hnew_;clear hg_ hnew_;(first | rw [← Ny416.out] at ho9 | (simp only [Int.reduceToNat] at ho9;rw [← Ny416.out] at ho9));have n0_:=Aside0.mk (Kd.R_lower ho9 (keep_size (w:=w) (g:=g) (row:=none) q69_));have n1_:=Aside0.mk (IsS96.below q68_ hb);have n2_:=Aside0.mk (KeepBut.trans q69_ (KeepBut.of_below hb g none) (.inl rfl));have n3_:=Aside0.mk (below_step q54_ hb);clear HI0;clear HK;clear HB;have HO418:=n0_;have HI0:=n1_;have HK:=n2_;have HB:=n3_;clear n0_ n1_ n2_ n3_;clear hb ho9) | ((with_reducible refine gate_callee (f:=44) rfl ?_);refine goesL_ (some 7) rfl rfl Tryz.func44 (by kernel_rfl) rfl #[.pointer (some ⟨g,0,none⟩),.int .i64 8] rfl q71_ ?_;(with_reducible refine (spec_l1Rd_below.calls g s0_0 t415 8 t419 t420 w0 _ ?side1 ?side2 A4.out).mono ?_);(case side1 => exact q138_);(case side2 => exact q134_);rintro e w10 ⟨rfl,hi,hb,hk⟩;refine ⟨_,rfl,?_⟩;have n0_:=Aside0.mk (Kd.R_mono (Kd.R_keep (IsS96.apart (show IsS96 w0 _ g s0_0 t415 from by repeat (first | (with_reducible first | exact HI0.out | apply IsS96.alloc | apply IsS96.drewN | apply IsS96.drew | apply IsS96.set_1) | exact HI0.out)) (by (with_reducible repeat (first | apply Kd.R_alloc | apply Kd.R_drewN | apply Kd.R_drew));exact HO418.out) (by decide)) hk (fun _ h => h.2)) (fun _ h => h.1));have n1_:=Aside0.mk (KeepBut.trans q69_ hk (.inl rfl));have n2_:=Aside0.mk (hb);have n3_:=Aside0.mk (hi);clear HO418;clear HK;clear HB;clear HI0;have HO418:=n0_;have HK:=n1_;have HB:=n2_;have HI0:=n3_;clear n0_ n1_ n2_ n3_;(try clear hb);(try clear hk);(try clear hi);obtain ⟨Ao11,co11,eo11⟩:=Kd.R_slice HO418.out;subst eo11;have p421:0 ≤ (t419:Int):=of_decide_eq_true q109_;have q421:t419 < (y416.length:Int):=of_decide_eq_true q109_;obtain ⟨ad421,e421,hx421_0⟩:=Kd.at_int (Kd.R_reads' HO418.out).2.2 t419 p421 q421;cases e421;replace p421:=eq_true p421;replace q421:=eq_true q421))
  go_ret
  exact ⟨q74_,q68_,q54_,q69_⟩
 replace c3:=Bool.eq_false_iff.mpr c3
 subst c3
 rewrite [if_neg (show ¬ (false = true) by decide)] at H
 replace H:=Option.bind_eq_some_iff.mp H
 obtain ⟨⟨t422,t423⟩,A120,H⟩:=H
 try dsimp -simprocs -eta only at H
 have A12:=Aside0.mk A120
 clear A120
 simp only [Option.some.injEq,Prod.mk.injEq] at H
 obtain ⟨rfl,rfl⟩:=H
 go_enter Tryz.func104,Tryz.ntmps104
 go_wp2_with (first | ((with_reducible refine gate_callee (f:=45) rfl ?_);refine goesL_ (some 4) rfl rfl Tryz.func45 (by kernel_rfl) rfl #[.pointer (some ⟨g,0,none⟩),.int .i64 2] rfl q71_ ?_;(with_reducible refine (spec_l1Rd_once.calls g s0_0 s0_1 2 false t415 w0 _ ?side1 ?side2 A2.out).mono ?_);(case side1 => exact q138_);(case side2 => exact q134_);rintro e w13 ⟨rfl,hi,hb,hk⟩;refine ⟨_,rfl,?_⟩;have n0_:=Aside0.mk (KeepBut.trans q69_ hk (.inl rfl));have n1_:=Aside0.mk (hb);have n2_:=Aside0.mk (hi);clear HK;clear HB;clear HI0;have HK:=n0_;have HB:=n1_;have HI0:=n2_;clear n0_ n1_ n2_;(try clear hb);(try clear hk);(try clear hi)) | ((with_reducible refine gate_callee (f:=44) rfl ?_);refine goesL_ (some 11) rfl rfl Tryz.func44 (by kernel_rfl) rfl #[.pointer (some ⟨g,0,none⟩),.int .i64 256] rfl q71_ ?_;(with_reducible refine (spec_l1Rd_below.calls g s0_0 t415 256 t422 t423 w0 _ ?side1 ?side2 A12.out).mono ?_);(case side1 => exact q138_);(case side2 => exact q134_);rintro e w14 ⟨rfl,hi,hb,hk⟩;refine ⟨_,rfl,?_⟩;have n0_:=Aside0.mk (KeepBut.trans q69_ hk (.inl rfl));have n1_:=Aside0.mk (hb);have n2_:=Aside0.mk (hi);clear HK;clear HB;clear HI0;have HK:=n0_;have HB:=n1_;have HI0:=n2_;clear n0_ n1_ n2_;(try clear hb);(try clear hk);(try clear hi)))
 go_ret
 exact ⟨q74_,q68_,q54_,q69_⟩
def spec_l1Rd_word.l0:Nat → Int → Int → List Int → Int → Option (Int × Int)
 | 0,_,_,_,_ => none
 | k + 1,x3,x4,x1000,x1001 => if x4 < 8 then ((spec_l1Rd_next.f x1000 x1001).bind fun bt424 => (spec_l1Rd_word.l0 k (Go.bits .or .u64 (IntKind.u64.wrap (x3 * 256)) (IntKind.u64.wrap (bt424.1))) (wrap64 (x4 + 1)) x1000 bt424.2)) else (some (x3,x1001))
def spec_l1Rd_word.f (k:Nat) (s0_0:List Int) (s0_1:Int):Option (Int × Int):=spec_l1Rd_word.l0 k 0 0 s0_0 s0_1
theorem spec_l1Rd_word.mono_l:∀ k,(∀ y0 y1 y2 y3,LeO (spec_l1Rd_word.l0 k y0 y1 y2 y3) (spec_l1Rd_word.l0 (k + 1) y0 y1 y2 y3))
 | 0 => fun _ _ _ _ r h => by simp [spec_l1Rd_word.l0] at h
 | k + 1 => by
  have ih0:=spec_l1Rd_word.mono_l k
  intro y0 y1 y2 y3
  unfold spec_l1Rd_word.l0
  repeat' first
  | (with_reducible first | exact ih0 _ _ _ _ | exact LeO.refl _ | exact LeO.none _ | refine LeO.ite ?_ ?_ | refine LeO.bind ?_ (fun _ => ?_))
  | exact ih0 _ _ _ _
  | exact LeO.none _
  | refine LeO.ite ?_ ?_
  | refine LeO.bind ?_ (fun _ => ?_)
theorem spec_l1Rd_word.mono:∀ a0 a1 k,LeO (spec_l1Rd_word.f k a0 a1) (spec_l1Rd_word.f (k + 1) a0 a1):=by
 intro a0 a1 k
 have ih0:=spec_l1Rd_word.mono_l k
 unfold spec_l1Rd_word.f
 repeat' first
   | (with_reducible first | exact ih0 _ _ _ _ | exact LeO.refl _ | exact LeO.none _ | refine LeO.ite ?_ ?_ | refine LeO.bind ?_ (fun _ => ?_))
   | exact ih0 _ _ _ _
   | exact LeO.none _
   | refine LeO.ite ?_ ?_
   | refine LeO.bind ?_ (fun _ => ?_)
theorem spec_l1Rd_word.calls (k:Nat) (g:Nat) (s0_0:List Int) (s0_1:Int) (r1:Int) (r2:Int) (w0 w:World) (hI:IsS96 w0 w g s0_0 s0_1) (hB:Below w0.heap.size w0 w) (h:spec_l1Rd_word.f k s0_0 s0_1 = some (r1,r2)) :
  Calls Tryz.prog 158 #[.pointer (some ⟨g,0,none⟩)] w fun e w' => e = .returned (.int .u64 r1) ∧ IsS96 w0 w' g s0_0 r2 ∧ Below w0.heap.size w0 w' ∧ KeepBut w w' g none:=by
 have HI0:=Aside0.mk hI
 have HK:=Aside0.mk (KeepBut.refl w g none)
 have HL:=Aside0.mk hB.size
 clear hI
 have HW0:=Aside0.mk hB.size
 have HB:=Aside0.mk hB
 clear hB
 have H:(spec_l1Rd_word.l0 k 0 0 s0_0 s0_1) = some (r1,r2):=h
 clear h
 have H':=Aside0.mk H
 clear H
 go_enter Tryz.func158,Tryz.ntmps158
 go_wp2
 go_loopg [3,4] k (fun kq v3 v4 w' => ∃ (x3_1:Int) (x4_1:Int) (x1001_1:Int),v3 = .int .u64 x3_1 ∧ v4 = .int .i64 x4_1 ∧ Aside0 (spec_l1Rd_word.l0 kq x3_1 x4_1 s0_0 x1001_1 = some (r1,r2)) ∧ Aside0 (kq ≤ k) ∧ Aside0 (IsS96 w0 w' g s0_0 x1001_1) ∧ Aside0 (KeepBut w w' g none) ∧ Aside0 (Below w0.heap.size w0 w'))
 case atStart => exact ⟨(0),(0),(s0_1),q92_,q92_,H',⟨Nat.le_refl _⟩,⟨q68_⟩,⟨q69_⟩,⟨q54_⟩⟩
 clear H'
 try clear c1
 obtain ⟨x3_1,x4_1,x1001_1,rfl,rfl,HA,HK1,HI0,HK,HB⟩:=hrel
 cases gk with
 | zero => exact absurd HA.out (by simp [spec_l1Rd_word.l0])
 | succ k1 =>
  have H:=HA.out
  clear HA
  simp only [spec_l1Rd_word.l0] at H
  by_cases c2:x4_1 < 8
  ·rw [if_pos c2] at H
   have c2b0:=decide_eq_true c2
   clear c2
   replace H:=Option.bind_eq_some_iff.mp H
   obtain ⟨⟨t424,t425⟩,A30,H⟩:=H
   try dsimp -simprocs -eta only at H
   have A3:=Aside0.mk A30
   clear A30
   have H':=Aside0.mk H
   clear H
   go_wp2_with (first | ((with_reducible refine gate_callee (f:=91) rfl ?_);refine goesL_ (some 12) rfl rfl Tryz.func91 (by kernel_rfl) rfl #[.pointer (some ⟨g,0,none⟩)] rfl q71_ ?_;(with_reducible refine (spec_l1Rd_next.calls g s0_0 x1001_1 t424 t425 w0 _ ?side1 ?side2 A3.out).mono ?_);(case side1 => exact q138_);(case side2 => exact q134_);rintro e w4 ⟨rfl,hi,hb,hk⟩;refine ⟨_,rfl,?_⟩;have n0_:=Aside0.mk (KeepBut.trans q69_ hk (.inl rfl));have n1_:=Aside0.mk (hb);have n2_:=Aside0.mk (hi);clear HK;clear HB;clear HI0;have HK:=n0_;have HB:=n1_;have HI0:=n2_;clear n0_ n1_ n2_;(try clear hb);(try clear hk);(try clear hi)))
   go_roundg k1
   case measure => have:=HK1.out;omega
   case rel => exact ⟨(Go.bits .or .u64 (IntKind.u64.wrap (x3_1 * 256)) (IntKind.u64.wrap (t424))),(wrap64 (x4_1 + 1)),(t425),q92_,q92_,H',⟨by have:=HK1.out;omega⟩,⟨q68_⟩,⟨q69_⟩,⟨q54_⟩⟩
  rw [if_neg c2] at H
  have c2b0:=decide_eq_false c2
  clear c2
  simp only [Option.some.injEq,Prod.mk.injEq] at H
  obtain ⟨rfl,rfl⟩:=H
  go_wp2
  go_ret
  exact ⟨q74_,q68_,q54_,q69_⟩
def spec_l1Rd_near.f (k:Nat) (s0_0:List Int) (s0_1:Int) (a1:Int) (a2:Int):Option (Int × Int):=(spec_l1Rd_below.f s0_0 s0_1 8).bind fun bt426 => (if bt426.1 = 0 then (some (a1,bt426.2)) else (if bt426.1 = 1 then (some (a2,bt426.2)) else (if a2 < a1 then (some (a1,bt426.2)) else ((spec_l1Rd_word.f k s0_0 bt426.2).bind fun bt428 => (if (IntKind.u64.wrap (wrap64 ((wrap64 (a2 - a1)) + 1))) = 0 then (none) else (some (wrap64 (a1 + (wrap64 (Int.tmod (bt428.1 / 2) (IntKind.u64.wrap (wrap64 ((wrap64 (a2 - a1)) + 1)))))),bt428.2)))))))
theorem spec_l1Rd_near.mono:∀ a0 a1 a2 a3 k,LeO (spec_l1Rd_near.f k a0 a1 a2 a3) (spec_l1Rd_near.f (k + 1) a0 a1 a2 a3):=by
 intro a0 a1 a2 a3 k
 unfold spec_l1Rd_near.f
 repeat' first
   | (with_reducible first | exact spec_l1Rd_word.mono _ _ _ | exact LeO.refl _ | exact LeO.none _ | refine LeO.ite ?_ ?_ | refine LeO.bind ?_ (fun _ => ?_))
   | exact spec_l1Rd_word.mono _ _ _
   | exact LeO.none _
   | refine LeO.ite ?_ ?_
   | refine LeO.bind ?_ (fun _ => ?_)
theorem spec_l1Rd_near.calls (k:Nat) (g:Nat) (s0_0:List Int) (s0_1:Int) (a1:Int) (a2:Int) (r1:Int) (r2:Int) (w0 w:World) (hI:IsS96 w0 w g s0_0 s0_1) (hB:Below w0.heap.size w0 w) (h:spec_l1Rd_near.f k s0_0 s0_1 a1 a2 = some (r1,r2)) :
  Calls Tryz.prog 134 #[.pointer (some ⟨g,0,none⟩),.int .i64 a1,.int .i64 a2] w fun e w' => e = .returned (.int .i64 r1) ∧ IsS96 w0 w' g s0_0 r2 ∧ Below w0.heap.size w0 w' ∧ KeepBut w w' g none:=by
 have HI0:=Aside0.mk hI
 have HK:=Aside0.mk (KeepBut.refl w g none)
 have HL:=Aside0.mk hB.size
 clear hI
 have HW0:=Aside0.mk hB.size
 have HB:=Aside0.mk hB
 clear hB
 have H:=h;unfold spec_l1Rd_near.f at H
 clear h
 replace H:=Option.bind_eq_some_iff.mp H
 obtain ⟨⟨t426,t427⟩,A40,H⟩:=H
 try dsimp -simprocs -eta only at H
 have A4:=Aside0.mk A40
 clear A40
 by_cases c5:t426 = 0
 ·rw [if_pos c5] at H
  have c5b0:(t426 == 0) = true:=beq_iff_eq.mpr c5
  have c5b1:(t426 != 0) = false:=bne_eq_false_iff_eq.mpr c5
  clear c5
  simp only [Option.some.injEq,Prod.mk.injEq] at H
  obtain ⟨rfl,rfl⟩:=H
  go_enter Tryz.func134,Tryz.ntmps134
  go_wp2_with (first | ((with_reducible refine gate_callee (f:=44) rfl ?_);refine goesL_ (some 8) rfl rfl Tryz.func44 (by kernel_rfl) rfl #[.pointer (some ⟨g,0,none⟩),.int .i64 8] rfl q71_ ?_;(with_reducible refine (spec_l1Rd_below.calls g s0_0 s0_1 8 t426 t427 w0 _ ?side1 ?side2 A4.out).mono ?_);(case side1 => exact q138_);(case side2 => exact q134_);rintro e w6 ⟨rfl,hi,hb,hk⟩;refine ⟨_,rfl,?_⟩;have n0_:=Aside0.mk (KeepBut.trans q69_ hk (.inl rfl));have n1_:=Aside0.mk (hb);have n2_:=Aside0.mk (hi);clear HK;clear HB;clear HI0;have HK:=n0_;have HB:=n1_;have HI0:=n2_;clear n0_ n1_ n2_;(try clear hb);(try clear hk);(try clear hi)))
  go_ret
  exact ⟨q74_,q68_,q54_,q69_⟩
 rw [if_neg c5] at H
 have c5b0:(t426 == 0) = false:=beq_eq_false_iff_ne.mpr c5
 have c5b1:(t426 != 0) = true:=bne_iff_ne.mpr c5
 by_cases c7:t426 = 1
 ·rw [if_pos c7] at H
  have c7b0:(t426 == 1) = true:=beq_iff_eq.mpr c7
  have c7b1:(t426 != 1) = false:=bne_eq_false_iff_eq.mpr c7
  clear c7
  simp only [Option.some.injEq,Prod.mk.injEq] at H
  obtain ⟨rfl,rfl⟩:=H
  go_enter Tryz.func134,Tryz.ntmps134
  go_wp2_with (first | ((with_reducible refine gate_callee (f:=44) rfl ?_);refine goesL_ (some 8) rfl rfl Tryz.func44 (by kernel_rfl) rfl #[.pointer (some ⟨g,0,none⟩),.int .i64 8] rfl q71_ ?_;(with_reducible refine (spec_l1Rd_below.calls g s0_0 s0_1 8 t426 t427 w0 _ ?side1 ?side2 A4.out).mono ?_);(case side1 => exact q138_);(case side2 => exact q134_);rintro e w8 ⟨rfl,hi,hb,hk⟩;refine ⟨_,rfl,?_⟩;have n0_:=Aside0.mk (KeepBut.trans q69_ hk (.inl rfl));have n1_:=Aside0.mk (hb);have n2_:=Aside0.mk (hi);clear HK;clear HB;clear HI0;have HK:=n0_;have HB:=n1_;have HI0:=n2_;clear n0_ n1_ n2_;(try clear hb);(try clear hk);(try clear hi)))
  go_ret
  exact ⟨q74_,q68_,q54_,q69_⟩
 rw [if_neg c7] at H
 have c7b0:(t426 == 1) = false:=beq_eq_false_iff_ne.mpr c7
 have c7b1:(t426 != 1) = true:=bne_iff_ne.mpr c7
 by_cases c9:a2 < a1
 ·rw [if_pos c9] at H
  have c9b0:=decide_eq_true c9
  clear c9
  simp only [Option.some.injEq,Prod.mk.injEq] at H
  obtain ⟨rfl,rfl⟩:=H
  go_enter Tryz.func134,Tryz.ntmps134
  go_wp2_with (first | ((with_reducible refine gate_callee (f:=44) rfl ?_);refine goesL_ (some 8) rfl rfl Tryz.func44 (by kernel_rfl) rfl #[.pointer (some ⟨g,0,none⟩),.int .i64 8] rfl q71_ ?_;(with_reducible refine (spec_l1Rd_below.calls g s0_0 s0_1 8 t426 t427 w0 _ ?side1 ?side2 A4.out).mono ?_);(case side1 => exact q138_);(case side2 => exact q134_);rintro e w10 ⟨rfl,hi,hb,hk⟩;refine ⟨_,rfl,?_⟩;have n0_:=Aside0.mk (KeepBut.trans q69_ hk (.inl rfl));have n1_:=Aside0.mk (hb);have n2_:=Aside0.mk (hi);clear HK;clear HB;clear HI0;have HK:=n0_;have HB:=n1_;have HI0:=n2_;clear n0_ n1_ n2_;(try clear hb);(try clear hk);(try clear hi)))
  go_ret
  exact ⟨q74_,q68_,q54_,q69_⟩
 rw [if_neg c9] at H
 have c9b0:=decide_eq_false c9
 clear c9
 replace H:=Option.bind_eq_some_iff.mp H
 obtain ⟨⟨t428,t429⟩,A110,H⟩:=H
 try dsimp -simprocs -eta only at H
 have A11:=Aside0.mk A110
 clear A110
 by_cases c12:(IntKind.u64.wrap (wrap64 ((wrap64 (a2 - a1)) + 1))) = 0
 ·rw [if_pos c12] at H
  exact absurd H (by simp)
 rw [if_neg c12] at H
 have c12b0:((IntKind.u64.wrap (wrap64 ((wrap64 (a2 - a1)) + 1))) == 0) = false:=beq_eq_false_iff_ne.mpr c12
 have c12b1:((IntKind.u64.wrap (wrap64 ((wrap64 (a2 - a1)) + 1))) != 0) = true:=bne_iff_ne.mpr c12
 simp only [Option.some.injEq,Prod.mk.injEq] at H
 obtain ⟨rfl,rfl⟩:=H
 go_enter Tryz.func134,Tryz.ntmps134
 go_wp2_with (first | ((with_reducible refine gate_callee (f:=44) rfl ?_);refine goesL_ (some 8) rfl rfl Tryz.func44 (by kernel_rfl) rfl #[.pointer (some ⟨g,0,none⟩),.int .i64 8] rfl q71_ ?_;(with_reducible refine (spec_l1Rd_below.calls g s0_0 s0_1 8 t426 t427 w0 _ ?side1 ?side2 A4.out).mono ?_);(case side1 => exact q138_);(case side2 => exact q134_);rintro e w13 ⟨rfl,hi,hb,hk⟩;refine ⟨_,rfl,?_⟩;have n0_:=Aside0.mk (KeepBut.trans q69_ hk (.inl rfl));have n1_:=Aside0.mk (hb);have n2_:=Aside0.mk (hi);clear HK;clear HB;clear HI0;have HK:=n0_;have HB:=n1_;have HI0:=n2_;clear n0_ n1_ n2_;(try clear hb);(try clear hk);(try clear hi)) | ((with_reducible refine gate_callee (f:=158) rfl ?_);refine goesL_ (some 21) rfl rfl Tryz.func158 (by kernel_rfl) rfl #[.pointer (some ⟨g,0,none⟩)] rfl q71_ ?_;(with_reducible refine (spec_l1Rd_word.calls k g s0_0 t427 t428 t429 w0 _ ?side1 ?side2 A11.out).mono ?_);(case side1 => exact q138_);(case side2 => exact q134_);rintro e w14 ⟨rfl,hi,hb,hk⟩;refine ⟨_,rfl,?_⟩;have n0_:=Aside0.mk (KeepBut.trans q69_ hk (.inl rfl));have n1_:=Aside0.mk (hb);have n2_:=Aside0.mk (hi);clear HK;clear HB;clear HI0;have HK:=n0_;have HB:=n1_;have HI0:=n2_;clear n0_ n1_ n2_;(try clear hb);(try clear hk);(try clear hi)))
 go_ret
 exact ⟨q74_,q68_,q54_,q69_⟩
def spec_l1Rd_off.f (k:Nat) (s0_0:List Int) (s0_1:Int) (a1:Int) (a2:Int):Option (Int × Int):=(spec_l1Rd_once.f s0_0 s0_1 24).bind fun bt430 => (if bt430.1 = true then ((some (([wrap64 (a1 - 1),wrap64 (a2 + 1),(-9223372036854775808),9223372036854775807]:List Int):List Int)).bind fun y432 => ((spec_l1Rd_below.f s0_0 bt430.2 4).bind fun bt435 => (if 0 ≤ bt435.1 then (if bt435.1 < (y432.length:Int) then (some (rd y432 bt435.1,bt435.2)) else (none)) else (none)))) else ((spec_l1Rd_near.f k s0_0 bt430.2 a1 a2).bind fun bt438 => (some (bt438.1,bt438.2))))
theorem spec_l1Rd_off.mono:∀ a0 a1 a2 a3 k,LeO (spec_l1Rd_off.f k a0 a1 a2 a3) (spec_l1Rd_off.f (k + 1) a0 a1 a2 a3):=by
 intro a0 a1 a2 a3 k
 unfold spec_l1Rd_off.f
 repeat' first
   | (with_reducible first | exact spec_l1Rd_near.mono _ _ _ _ _ | exact LeO.refl _ | exact LeO.none _ | refine LeO.ite ?_ ?_ | refine LeO.bind ?_ (fun _ => ?_))
   | exact spec_l1Rd_near.mono _ _ _ _ _
   | exact LeO.none _
   | refine LeO.ite ?_ ?_
   | refine LeO.bind ?_ (fun _ => ?_)
theorem spec_l1Rd_off.calls (k:Nat) (g:Nat) (s0_0:List Int) (s0_1:Int) (a1:Int) (a2:Int) (r1:Int) (r2:Int) (w0 w:World) (hI:IsS96 w0 w g s0_0 s0_1) (hB:Below w0.heap.size w0 w) (h:spec_l1Rd_off.f k s0_0 s0_1 a1 a2 = some (r1,r2)) :
  Calls Tryz.prog 105 #[.pointer (some ⟨g,0,none⟩),.int .i64 a1,.int .i64 a2] w fun e w' => e = .returned (.int .i64 r1) ∧ IsS96 w0 w' g s0_0 r2 ∧ Below w0.heap.size w0 w' ∧ KeepBut w w' g none:=by
 have HI0:=Aside0.mk hI
 have HK:=Aside0.mk (KeepBut.refl w g none)
 have HL:=Aside0.mk hB.size
 clear hI
 have HW0:=Aside0.mk hB.size
 have HB:=Aside0.mk hB
 clear hB
 have H:=h;unfold spec_l1Rd_off.f at H
 clear h
 replace H:=Option.bind_eq_some_iff.mp H
 obtain ⟨⟨t430,t431⟩,A40,H⟩:=H
 try dsimp -simprocs -eta only at H
 have A4:=Aside0.mk A40
 clear A40
 by_cases c5:t430 = true
 ·subst c5
  rewrite [if_pos rfl] at H
  obtain ⟨y432,hy432⟩:∃ y_:List Int,y_ = (([wrap64 (a1 - 1),wrap64 (a2 + 1),(-9223372036854775808),9223372036854775807]:List Int)):=⟨_,rfl⟩
  replace H:((spec_l1Rd_below.f s0_0 t431 4).bind fun bt435 => (if 0 ≤ bt435.1 then (if bt435.1 < (y432.length:Int) then (some (rd y432 bt435.1,bt435.2)) else (none)) else (none))) = some (r1,r2):=by first | (rw [hy432];exact H) | exact H
  have Ny432:=Aside0.mk hy432
  clear hy432
  replace H:=Option.bind_eq_some_iff.mp H
  obtain ⟨⟨t435,t436⟩,A60,H⟩:=H
  try dsimp -simprocs -eta only at H
  have A6:=Aside0.mk A60
  clear A60
  by_cases c7:0 ≤ t435
  rotate_left
  ·rw [if_neg c7] at H
   exact absurd H (by simp)
  rw [if_pos c7] at H
  have c7b0:=decide_eq_true c7
  clear c7
  by_cases c8:t435 < (y432.length:Int)
  rotate_left
  ·rw [if_neg c8] at H
   exact absurd H (by simp)
  rw [if_pos c8] at H
  have c8b0:=decide_eq_true c8
  clear c8
  simp only [Option.some.injEq,Prod.mk.injEq] at H
  obtain ⟨rfl,rfl⟩:=H
  go_enter Tryz.func105,Tryz.ntmps105
  go_wp2_with (first | ((with_reducible refine gate_callee (f:=45) rfl ?_);refine goesL_ (some 8) rfl rfl Tryz.func45 (by kernel_rfl) rfl #[.pointer (some ⟨g,0,none⟩),.int .i64 24] rfl q71_ ?_;(with_reducible refine (spec_l1Rd_once.calls g s0_0 s0_1 24 true t431 w0 _ ?side1 ?side2 A4.out).mono ?_);(case side1 => exact q138_);(case side2 => exact q134_);rintro e w9 ⟨rfl,hi,hb,hk⟩;refine ⟨_,rfl,?_⟩;have n0_:=Aside0.mk (KeepBut.trans q69_ hk (.inl rfl));have n1_:=Aside0.mk (hb);have n2_:=Aside0.mk (hi);clear HK;clear HB;clear HI0;have HK:=n0_;have HB:=n1_;have HI0:=n2_;clear n0_ n1_ n2_;(try clear hb);(try clear hk);(try clear hi)) | ((with_reducible refine gate_dst (N:=13) rfl ?_);refine Kd.R_lit (Kd.int .i64) _ 2 ?hg (N:=13) ?hd (xs:=([wrap64 (a1 - 1),wrap64 (a2 + 1),(-9223372036854775808),9223372036854775807]:List Int)) (inner:=[.int .i64 (wrap64 (a1 - 1)),.int .i64 (wrap64 (a2 + 1)),.int .i64 (-9223372036854775808),.int .i64 9223372036854775807]) (ok:=fun _ => True) (okp:=fun _ => True) ?hr ?hp (fun _ hk => hk) trivial (Below.refl _ _) (Nat.le_refl _) (by simp) ?_;(case hd => rfl);(case hg => rfl);(case hr => exact q139_);(case hp => exact (Reps.one (show Kd.M (Kd.int .i64) _ _ _ (wrap64 (a1 - 1)) [.int .i64 (wrap64 (a1 - 1))] from rfl) (Reps.one (show Kd.M (Kd.int .i64) _ _ _ (wrap64 (a2 + 1)) [.int .i64 (wrap64 (a2 + 1))] from rfl) (Reps.one (show Kd.M (Kd.int .i64) _ _ _ (-9223372036854775808) [.int .i64 (-9223372036854775808)] from rfl) (Reps.one (show Kd.M (Kd.int .i64) _ _ _ 9223372036854775807 [.int .i64 9223372036854775807] from rfl) (Reps.none _ _))))));intro v433 w10 ho11 hb hg_ hnew_;clear hg_ hnew_;(first | rw [← Ny432.out] at ho11 | (simp only [Int.reduceToNat] at ho11;rw [← Ny432.out] at ho11));have n0_:=Aside0.mk (Kd.R_lower ho11 (keep_size (w:=w) (g:=g) (row:=none) q69_));have n1_:=Aside0.mk (IsS96.below q68_ hb);have n2_:=Aside0.mk (KeepBut.trans q69_ (KeepBut.of_below hb g none) (.inl rfl));have n3_:=Aside0.mk (below_step q54_ hb);clear HI0;clear HK;clear HB;have HO434:=n0_;have HI0:=n1_;have HK:=n2_;have HB:=n3_;clear n0_ n1_ n2_ n3_;clear hb ho11) | ((with_reducible refine gate_callee (f:=44) rfl ?_);refine goesL_ (some 15) rfl rfl Tryz.func44 (by kernel_rfl) rfl #[.pointer (some ⟨g,0,none⟩),.int .i64 4] rfl q71_ ?_;(with_reducible refine (spec_l1Rd_below.calls g s0_0 t431 4 t435 t436 w0 _ ?side1 ?side2 A6.out).mono ?_);(case side1 => exact q138_);(case side2 => exact q134_);rintro e w12 ⟨rfl,hi,hb,hk⟩;refine ⟨_,rfl,?_⟩;have n0_:=Aside0.mk (Kd.R_mono (Kd.R_keep (IsS96.apart (show IsS96 w0 _ g s0_0 t431 from by repeat (first | (with_reducible first | exact HI0.out | apply IsS96.alloc | apply IsS96.drewN | apply IsS96.drew | apply IsS96.set_1) | exact HI0.out)) (by (with_reducible repeat (first | apply Kd.R_alloc | apply Kd.R_drewN | apply Kd.R_drew));exact HO434.out) (by decide)) hk (fun _ h => h.2)) (fun _ h => h.1));have n1_:=Aside0.mk (KeepBut.trans q69_ hk (.inl rfl));have n2_:=Aside0.mk (hb);have n3_:=Aside0.mk (hi);clear HO434;clear HK;clear HB;clear HI0;have HO434:=n0_;have HK:=n1_;have HB:=n2_;have HI0:=n3_;clear n0_ n1_ n2_ n3_;(try clear hb);(try clear hk);(try clear hi);obtain ⟨Ao13,co13,eo13⟩:=Kd.R_slice HO434.out;subst eo13;have p437:0 ≤ (t435:Int):=of_decide_eq_true q109_;have q437:t435 < (y432.length:Int):=of_decide_eq_true q109_;obtain ⟨ad437,e437,hx437_0⟩:=Kd.at_int (Kd.R_reads' HO434.out).2.2 t435 p437 q437;cases e437;replace p437:=eq_true p437;replace q437:=eq_true q437))
  go_ret
  exact ⟨q74_,q68_,q54_,q69_⟩
 replace c5:=Bool.eq_false_iff.mpr c5
 subst c5
 rewrite [if_neg (show ¬ (false = true) by decide)] at H
 replace H:=Option.bind_eq_some_iff.mp H
 obtain ⟨⟨t438,t439⟩,A140,H⟩:=H
 try dsimp -simprocs -eta only at H
 have A14:=Aside0.mk A140
 clear A140
 simp only [Option.some.injEq,Prod.mk.injEq] at H
 obtain ⟨rfl,rfl⟩:=H
 go_enter Tryz.func105,Tryz.ntmps105
 go_wp2_with (first | ((with_reducible refine gate_callee (f:=45) rfl ?_);refine goesL_ (some 8) rfl rfl Tryz.func45 (by kernel_rfl) rfl #[.pointer (some ⟨g,0,none⟩),.int .i64 24] rfl q71_ ?_;(with_reducible refine (spec_l1Rd_once.calls g s0_0 s0_1 24 false t431 w0 _ ?side1 ?side2 A4.out).mono ?_);(case side1 => exact q138_);(case side2 => exact q134_);rintro e w15 ⟨rfl,hi,hb,hk⟩;refine ⟨_,rfl,?_⟩;have n0_:=Aside0.mk (KeepBut.trans q69_ hk (.inl rfl));have n1_:=Aside0.mk (hb);have n2_:=Aside0.mk (hi);clear HK;clear HB;clear HI0;have HK:=n0_;have HB:=n1_;have HI0:=n2_;clear n0_ n1_ n2_;(try clear hb);(try clear hk);(try clear hi)) | ((with_reducible refine gate_callee (f:=134) rfl ?_);refine goesL_ (some 21) rfl rfl Tryz.func134 (by kernel_rfl) rfl #[.pointer (some ⟨g,0,none⟩),.int .i64 a1,.int .i64 a2] rfl q71_ ?_;(with_reducible refine (spec_l1Rd_near.calls k g s0_0 t431 a1 a2 t438 t439 w0 _ ?side1 ?side2 A14.out).mono ?_);(case side1 => exact q138_);(case side2 => exact q134_);rintro e w16 ⟨rfl,hi,hb,hk⟩;refine ⟨_,rfl,?_⟩;have n0_:=Aside0.mk (KeepBut.trans q69_ hk (.inl rfl));have n1_:=Aside0.mk (hb);have n2_:=Aside0.mk (hi);clear HK;clear HB;clear HI0;have HK:=n0_;have HB:=n1_;have HI0:=n2_;clear n0_ n1_ n2_;(try clear hb);(try clear hk);(try clear hi)))
 go_ret
 exact ⟨q74_,q68_,q54_,q69_⟩
mutual
def spec_l1Rd_ins.j1:Nat → List Int → Int → Int → Bool → Int → Option (Int × Bool × Int × Int)
 | 0,_,_,_,_,_ => none
 | k + 1,x1000,x1001,x446000,x446001,x446002 => (spec_l1Rd_once.f x1000 x1001 40).bind fun bt453 => (if bt453.1 = true then ((spec_l1Rd_off.f k x1000 bt453.2 0 255).bind fun bt455 => (some (x446000,x446001,bt455.1,bt455.2))) else (some (x446000,x446001,x446002,bt453.2)))
def spec_l1Rd_ins.j0:Nat → Bool → List Int → Int → Int → Bool → Int → Option (Int × Bool × Int × Int)
 | 0,_,_,_,_,_,_ => none
 | k + 1,x26,x1000,x1001,x446000,x446001,x446002 => if x26 = true then ((spec_l1Rd_byte.f x1000 x1001).bind fun bt451 => (spec_l1Rd_ins.j1 k x1000 bt451.2 x446000 x446001 bt451.1)) else (spec_l1Rd_ins.j1 k x1000 x1001 x446000 x446001 x446002)
end
def spec_l1Rd_ins.f (k:Nat) (s0_0:List Int) (s0_1:Int):Option (Int × Bool × Int × Int):=(spec_l1Rd_below.f s0_0 s0_1 256).bind fun bt441 => ((spec_l1Rd_once.f s0_0 bt441.2 4).bind fun bt443 => ((spec_l3Template.f k bt441.1 bt443.1).bind fun t446 => ((spec_l3Hole.f k t446).bind fun bt447 => (if bt447.2.toList = ([110,49,54]:List UInt8) then ((spec_l1Rd_below.f s0_0 bt443.2 65536).bind fun bt449 => (spec_l1Rd_ins.j1 k s0_0 bt449.2 bt441.1 bt443.1 bt449.1)) else (if bt447.2.toList = ([110,56]:List UInt8) then (spec_l1Rd_ins.j0 k (bt447.2.toList == ([110,56]:List UInt8)) s0_0 bt443.2 bt441.1 bt443.1 0) else (spec_l1Rd_ins.j0 k (bt447.2.toList == ([101,56]:List UInt8)) s0_0 bt443.2 bt441.1 bt443.1 0))))))
theorem spec_l1Rd_ins.calls (k:Nat) (g:Nat) (s0_0:List Int) (s0_1:Int) (r1:Int) (r2:Bool) (r3:Int) (r4:Int) (w0 w:World) (hI:IsS96 w0 w g s0_0 s0_1) (hB:Below w0.heap.size w0 w) (h:spec_l1Rd_ins.f k s0_0 s0_1 = some (r1,r2,r3,r4)) :
  Calls Tryz.prog 62 #[.pointer (some ⟨g,0,none⟩)] w fun e w' => e = .returned (.agg #[.int .i64 r1,.bool r2,.int .i64 r3]) ∧ IsS96 w0 w' g s0_0 r4 ∧ Below w0.heap.size w0 w' ∧ KeepBut w w' g none:=by
 have hu30:=Tryz.underlying30
 have HI0:=Aside0.mk hI
 have HK:=Aside0.mk (KeepBut.refl w g none)
 have HL:=Aside0.mk hB.size
 clear hI
 have HW0:=Aside0.mk hB.size
 have HB:=Aside0.mk hB
 clear hB
 have H:=h;unfold spec_l1Rd_ins.f at H
 clear h
 replace H:=Option.bind_eq_some_iff.mp H
 obtain ⟨⟨t441,t442⟩,A20,H⟩:=H
 try dsimp -simprocs -eta only at H
 have A2:=Aside0.mk A20
 clear A20
 replace H:=Option.bind_eq_some_iff.mp H
 obtain ⟨⟨t443,t444⟩,A30,H⟩:=H
 try dsimp -simprocs -eta only at H
 have A3:=Aside0.mk A30
 clear A30
 replace H:=Option.bind_eq_some_iff.mp H
 obtain ⟨t446,A40,H⟩:=H
 have A4:=Aside0.mk A40
 clear A40
 replace H:=Option.bind_eq_some_iff.mp H
 obtain ⟨⟨t447,t448⟩,A50,H⟩:=H
 try dsimp -simprocs -eta only at H
 have A5:=Aside0.mk A50
 clear A50
 have HC6:=Aside0.mk H
 clear H
 go_enter Tryz.func62,Tryz.ntmps62
 go_upto_block 0 with (first | ((with_reducible refine gate_dst (N:=2) rfl ?_);refine box_event ?hg (N:=2) ?hd (cs:=#[.int .i64 0,.bool false,.int .i64 0]) (t:=30) ?hr ?_;(case hd => rfl);(case hg => rfl);(case hr => exact q139_);intro gb440 hg w7 hbox hb;have n0_:=Aside0.mk (IsS96.below q68_ hb);have n1_:=Aside0.mk (KeepBut.trans q69_ (KeepBut.of_below hb g none) (.inl rfl));have n2_:=Aside0.mk (below_step q54_ hb);have n3_:=Aside0.mk (hbox);have n4_:=Aside0.mk ((q37_:w.heap.size ≤ gb440));have n5_:=Aside0.mk ((Nat.le_trans HW0.out (q37_:w.heap.size ≤ gb440):w0.heap.size ≤ gb440));have n6_:=Aside0.mk ((by rw [hg];exact Nat.ne_of_lt (IsS96.lt (show IsS96 w0 _ g s0_0 s0_1 from by repeat (first | (with_reducible first | exact HI0.out | apply IsS96.alloc | apply IsS96.drewN | apply IsS96.drew | apply IsS96.set_1) | exact HI0.out))):g ≠ gb440));have n7_:=Aside0.mk ((by rw [hg];exact Nat.ne_of_gt (IsS96.lt (show IsS96 w0 _ g s0_0 s0_1 from by repeat (first | (with_reducible first | exact HI0.out | apply IsS96.alloc | apply IsS96.drewN | apply IsS96.drew | apply IsS96.set_1) | exact HI0.out))):gb440 ≠ g));clear HI0;clear HK;clear HB;have HI0:=n0_;have HK:=n1_;have HB:=n2_;have BK440:=n3_;have GW440:=n4_;have GE440:=n5_;have NB0_440:=n6_;have NB440_0:=n7_;clear n0_ n1_ n2_ n3_ n4_ n5_ n6_ n7_;clear hb hbox hg) | ((with_reducible refine gate_callee (f:=44) rfl ?_);refine goesL_ (some 7) rfl rfl Tryz.func44 (by kernel_rfl) rfl #[.pointer (some ⟨g,0,none⟩),.int .i64 256] rfl q71_ ?_;(with_reducible refine (spec_l1Rd_below.calls g s0_0 s0_1 256 t441 t442 w0 _ ?side1 ?side2 A2.out).mono ?_);(case side1 => exact q132_);(case side2 => exact q131_);rintro e w8 ⟨rfl,hi,hb,hk⟩;refine ⟨_,rfl,?_⟩;have n0_:=Aside0.mk (KeepBut.blk hk (g':=gb440) (o:=.cells #[.int .i64 0,.bool false,.int .i64 0] 30 (0,0)) q76_ NB440_0.out (by simp));have n1_:=Aside0.mk (KeepBut.trans q51_ hk (.inl rfl));have n2_:=Aside0.mk (hb);have n3_:=Aside0.mk (hi);clear BK440;clear HK;clear HB;clear HI0;have BK440:=n0_;have HK:=n1_;have HB:=n2_;have HI0:=n3_;clear n0_ n1_ n2_ n3_;(try clear hb);(try clear hk);(try clear hi)) | ((with_reducible refine gate_callee (f:=45) rfl ?_);refine goesL_ (some 9) rfl rfl Tryz.func45 (by kernel_rfl) rfl #[.pointer (some ⟨g,0,none⟩),.int .i64 4] rfl q71_ ?_;(with_reducible refine (spec_l1Rd_once.calls g s0_0 t442 4 t443 t444 w0 _ ?side1 ?side2 A3.out).mono ?_);(case side1 => exact q132_);(case side2 => exact q131_);rintro e w9 ⟨rfl,hi,hb,hk⟩;refine ⟨_,rfl,?_⟩;have n0_:=Aside0.mk (KeepBut.blk hk (g':=gb440) (o:=.cells #[.int .i64 0,.bool false,.int .i64 0] 30 (0,0)) q76_ NB440_0.out (by simp));have n1_:=Aside0.mk (KeepBut.trans q51_ hk (.inl rfl));have n2_:=Aside0.mk (hb);have n3_:=Aside0.mk (hi);clear BK440;clear HK;clear HB;clear HI0;have BK440:=n0_;have HK:=n1_;have HB:=n2_;have HI0:=n3_;clear n0_ n1_ n2_ n3_;(try clear hb);(try clear hk);(try clear hi)) | ((with_reducible refine gate_dst (N:=3) rfl ?_);refine box_event ?hg (N:=3) ?hd (cs:=#[.int .i64 0,.bool false,.int .i64 0]) (t:=30) ?hr ?_;(case hd => rfl);(case hg => rfl);(case hr => exact q139_);intro gb445 hg w10 hbox hb;have n0_:=Aside0.mk (IsS96.below (by repeat (first | (with_reducible first | exact HI0.out | apply IsS96.alloc | apply IsS96.drewN | apply IsS96.drew | apply IsS96.set_1 | refine IsS96.far ?_ NB0_440.out _) | exact HI0.out)) hb);have n1_:=Aside0.mk (blk_below (g:=gb440) (o:=.cells #[.int .i64 0,.bool false,.int .i64 0] 30 (0,0)) q76_ hb);have n2_:=Aside0.mk (KeepBut.trans q51_ (KeepBut.of_below hb g none) (.inl rfl));have n3_:=Aside0.mk (below_step (by repeat (first | (with_reducible first | exact HB.out | apply below_alloc | apply pw_below_drewN | apply below_drew1 | refine below_set ?_ (IsS96.ge HI0.out) | refine below_set ?_ GE440.out) | exact HB.out)) hb);have n4_:=Aside0.mk (hbox);have n5_:=Aside0.mk ((q18_:w.heap.size ≤ gb445));have n6_:=Aside0.mk ((Nat.le_trans HW0.out (q18_:w.heap.size ≤ gb445):w0.heap.size ≤ gb445));have n7_:=Aside0.mk ((by rw [hg];exact Nat.ne_of_lt (blk_lt (g:=gb440) (o:=.cells #[.int .i64 0,.bool false,.int .i64 0] 30 (0,0)) q76_):gb440 ≠ gb445));have n8_:=Aside0.mk ((by rw [hg];exact Nat.ne_of_gt (blk_lt (g:=gb440) (o:=.cells #[.int .i64 0,.bool false,.int .i64 0] 30 (0,0)) q76_):gb445 ≠ gb440));have n9_:=Aside0.mk ((by rw [hg];exact Nat.ne_of_lt (IsS96.lt (show IsS96 w0 _ g s0_0 t444 from by repeat (first | (with_reducible first | exact HI0.out | apply IsS96.alloc | apply IsS96.drewN | apply IsS96.drew | apply IsS96.set_1 | refine IsS96.far ?_ NB0_440.out _) | exact HI0.out))):g ≠ gb445));have n10_:=Aside0.mk ((by rw [hg];exact Nat.ne_of_gt (IsS96.lt (show IsS96 w0 _ g s0_0 t444 from by repeat (first | (with_reducible first | exact HI0.out | apply IsS96.alloc | apply IsS96.drewN | apply IsS96.drew | apply IsS96.set_1 | refine IsS96.far ?_ NB0_440.out _) | exact HI0.out))):gb445 ≠ g));clear HI0;clear BK440;clear HK;clear HB;have HI0:=n0_;have BK440:=n1_;have HK:=n2_;have HB:=n3_;have BK445:=n4_;have GW445:=n5_;have GE445:=n6_;have NB440_445:=n7_;have NB445_440:=n8_;have NB0_445:=n9_;have NB445_0:=n10_;clear n0_ n1_ n2_ n3_ n4_ n5_ n6_ n7_ n8_ n9_ n10_;clear hb hbox hg;have hnb11:=NB445_440.out;have hnc11:=NB440_445.out;have hnb12:=NB445_0.out;have hnc12:=NB0_445.out;have hcz13_0:w10.cell? ⟨gb445,0,none⟩ = some (.int .i64 0):=(blk_cell BK445.out 0).trans rfl;have hcz13_1:w10.cell? ⟨gb445,1,none⟩ = some (.bool false):=(blk_cell BK445.out 1).trans rfl;have hcz13_2:w10.cell? ⟨gb445,2,none⟩ = some (.int .i64 0):=(blk_cell BK445.out 2).trans rfl;have hfz13_0:=blk_frozen BK445.out 0;have hfz13_1:=blk_frozen BK445.out 1;have hfz13_2:=blk_frozen BK445.out 2) | ((with_reducible refine gate_callee (f:=60) rfl ?_);refine goesL_ (some 16) rfl rfl Tryz.func60 (by kernel_rfl) rfl #[.int .i64 t441,.bool t443] rfl q71_ ?_;(with_reducible refine (spec_l3Template.calls k t441 t443 t446 _ A4.out).mono ?_);rintro e w14 ⟨rfl,hb⟩;refine ⟨_,rfl,?_⟩;have n0_:=Aside0.mk (IsS96.below (show IsS96 w0 (((w10.setCell ⟨gb445,0,none⟩ (.int .i64 t441)).setCell ⟨gb445,1,none⟩ (.bool t443)).setCell ⟨gb445,2,none⟩ (.int .i64 0)) g s0_0 t444 from by repeat (first | (with_reducible first | exact HI0.out | apply IsS96.alloc | apply IsS96.drewN | apply IsS96.drew | apply IsS96.set_1 | refine IsS96.far ?_ NB0_440.out _ | refine IsS96.far ?_ NB0_445.out _) | exact HI0.out)) hb);have n1_:=Aside0.mk (blk_below (g:=gb440) (o:=.cells #[.int .i64 0,.bool false,.int .i64 0] 30 (0,0)) (by (with_reducible repeat (first | refine blk_drewN ?_ _ | refine blk_drew ?_ | refine blk_alloc ?_ _));refine blk_far ?_ NB440_445.out _;(with_reducible repeat (first | refine blk_drewN ?_ _ | refine blk_drew ?_ | refine blk_alloc ?_ _));refine blk_far ?_ NB440_445.out _;(with_reducible repeat (first | refine blk_drewN ?_ _ | refine blk_drew ?_ | refine blk_alloc ?_ _));refine blk_far ?_ NB440_445.out _;(with_reducible repeat (first | refine blk_drewN ?_ _ | refine blk_drew ?_ | refine blk_alloc ?_ _));exact BK440.out) hb);have n2_:=Aside0.mk (blk_below (g:=gb445) (o:=.cells #[.int .i64 t441,.bool t443,.int .i64 0] 30 (0,0)) (by (with_reducible repeat (first | refine blk_drewN ?_ _ | refine blk_drew ?_ | refine blk_alloc ?_ _));refine blk_put (cs:=#[.int .i64 t441,.bool t443,.int .i64 0]) ?_ 2 _ rfl;(with_reducible repeat (first | refine blk_drewN ?_ _ | refine blk_drew ?_ | refine blk_alloc ?_ _));refine blk_put (cs:=#[.int .i64 t441,.bool false,.int .i64 0]) ?_ 1 _ rfl;(with_reducible repeat (first | refine blk_drewN ?_ _ | refine blk_drew ?_ | refine blk_alloc ?_ _));refine blk_put (cs:=#[.int .i64 0,.bool false,.int .i64 0]) ?_ 0 _ rfl;(with_reducible repeat (first | refine blk_drewN ?_ _ | refine blk_drew ?_ | refine blk_alloc ?_ _));exact BK445.out) hb);have n3_:=Aside0.mk (KeepBut.trans q36_ (KeepBut.of_below hb g none) (.inl rfl));have n4_:=Aside0.mk (below_step q27_ hb);clear HI0;clear BK440;clear BK445;clear HK;clear HB;have HI0:=n0_;have BK440:=n1_;have BK445:=n2_;have HK:=n3_;have HB:=n4_;clear n0_ n1_ n2_ n3_ n4_;(try clear hb)) | ((with_reducible refine gate_callee (f:=59) rfl ?_);refine goesL_ (some 17) rfl rfl Tryz.func59 (by kernel_rfl) rfl #[.string t446] rfl q71_ ?_;(with_reducible refine (spec_l3Hole.calls k t446 t447 t448 _ A5.out).mono ?_);rintro e w15 ⟨rfl,hb⟩;refine ⟨_,rfl,?_⟩;have n0_:=Aside0.mk (IsS96.below q35_ hb);have n1_:=Aside0.mk (blk_below (g:=gb440) (o:=.cells #[.int .i64 0,.bool false,.int .i64 0] 30 (0,0)) q76_ hb);have n2_:=Aside0.mk (blk_below (g:=gb445) (o:=.cells #[.int .i64 t441,.bool t443,.int .i64 0] 30 (0,0)) q77_ hb);have n3_:=Aside0.mk (KeepBut.trans q36_ (KeepBut.of_below hb g none) (.inl rfl));have n4_:=Aside0.mk (below_step q27_ hb);clear HI0;clear BK440;clear BK445;clear HK;clear HB;have HI0:=n0_;have BK440:=n1_;have BK445:=n2_;have HK:=n3_;have HB:=n4_;clear n0_ n1_ n2_ n3_ n4_;(try clear hb)))
 (try simp only [Act.put,List.setIfInBounds_toArray,List.set_cons_zero,List.set_cons_succ])
 go_cut [] (fun wc => ∃ (kq:Nat) (x1001_5:Int) (x446002_5:Int),Aside0 (spec_l1Rd_ins.j1 kq s0_0 x1001_5 t441 t443 x446002_5 = some (r1,r2,r3,r4)) ∧ Aside0 (kq ≤ k) ∧ Aside0 (wc.heap[gb440]? = some (.cells #[.int .i64 0,.bool false,.int .i64 0] 30 (0,0))) ∧ Aside0 (wc.heap[gb445]? = some (.cells #[.int .i64 t441,.bool t443,.int .i64 x446002_5] 30 (0,0))) ∧ Aside0 (IsS96 w0 wc g s0_0 x1001_5) ∧ Aside0 (KeepBut w wc g none) ∧ Aside0 (Below w0.heap.size w0 wc))
 case first =>
  have H:=HC6.out
  clear HC6
  by_cases c16:t448.toList = ([110,49,54]:List UInt8)
  ·rw [if_pos c16] at H
   have c16b0:(t448.toList == ([110,49,54]:List UInt8)) = true:=beq_iff_eq.mpr c16
   have c16b1:(t448.toList != ([110,49,54]:List UInt8)) = false:=bne_eq_false_iff_eq.mpr c16
   clear c16
   (first | rw [c16b0] | (simp only [i64_w,i32_w];rw [c16b0]) | rw [c16b9] | skip)
   replace H:=Option.bind_eq_some_iff.mp H
   obtain ⟨⟨t449,t450⟩,A170,H⟩:=H
   try dsimp -simprocs -eta only at H
   have A17:=Aside0.mk A170
   clear A170
   have H':=Aside0.mk H
   clear H
   go_wp2_with (first | ((with_reducible refine gate_callee (f:=44) rfl ?_);refine goesL_ (some 24) rfl rfl Tryz.func44 (by kernel_rfl) rfl #[.pointer (some ⟨g,0,none⟩),.int .i64 65536] rfl q71_ ?_;(with_reducible refine (spec_l1Rd_below.calls g s0_0 t444 65536 t449 t450 w0 _ ?side1 ?side2 A17.out).mono ?_);(case side1 => exact q130_);(case side2 => exact q129_);rintro e w18 ⟨rfl,hi,hb,hk⟩;refine ⟨_,rfl,?_⟩;have n0_:=Aside0.mk (KeepBut.blk hk (g':=gb440) (o:=.cells #[.int .i64 0,.bool false,.int .i64 0] 30 (0,0)) q76_ NB440_0.out (by simp));have n1_:=Aside0.mk (KeepBut.blk hk (g':=gb445) (o:=.cells #[.int .i64 t441,.bool t443,.int .i64 0] 30 (0,0)) q77_ NB445_0.out (by simp));have n2_:=Aside0.mk (KeepBut.trans q36_ hk (.inl rfl));have n3_:=Aside0.mk (hb);have n4_:=Aside0.mk (hi);clear BK440;clear BK445;clear HK;clear HB;clear HI0;have BK440:=n0_;have BK445:=n1_;have HK:=n2_;have HB:=n3_;have HI0:=n4_;clear n0_ n1_ n2_ n3_ n4_;(try clear hb);(try clear hk);(try clear hi);have hnb19:=NB445_440.out;have hnc19:=NB440_445.out;have hnb20:=NB445_0.out;have hnc20:=NB0_445.out;have hcz21_0:w18.cell? ⟨gb445,0,none⟩ = some (.int .i64 t441):=(blk_cell BK445.out 0).trans rfl;have hcz21_1:w18.cell? ⟨gb445,1,none⟩ = some (.bool t443):=(blk_cell BK445.out 1).trans rfl;have hcz21_2:w18.cell? ⟨gb445,2,none⟩ = some (.int .i64 0):=(blk_cell BK445.out 2).trans rfl;have hfz21_0:=blk_frozen BK445.out 0;have hfz21_1:=blk_frozen BK445.out 1;have hfz21_2:=blk_frozen BK445.out 2))
   go_meet
   case rel => exact ⟨_,(t450),(t449),H',⟨q121_⟩,⟨q17_⟩,⟨q11_⟩,⟨q35_⟩,⟨q36_⟩,⟨q27_⟩⟩
  rw [if_neg c16] at H
  have c16b0:(t448.toList == ([110,49,54]:List UInt8)) = false:=beq_eq_false_iff_ne.mpr c16
  have c16b1:(t448.toList != ([110,49,54]:List UInt8)) = true:=bne_iff_ne.mpr c16
  (first | rw [c16b0] | (simp only [i64_w,i32_w];rw [c16b0]) | rw [c16b9] | skip)
  have HC22:=Aside0.mk H
  clear H
  go_upto_if 26 with (fail)
  go_cut [26] (fun v26 wc => ∃ (kq:Nat) (x26_21:Bool),v26 = .bool x26_21 ∧ Aside0 (spec_l1Rd_ins.j0 kq x26_21 s0_0 t444 t441 t443 0 = some (r1,r2,r3,r4)) ∧ Aside0 (kq ≤ k) ∧ Aside0 (wc.heap[gb440]? = some (.cells #[.int .i64 0,.bool false,.int .i64 0] 30 (0,0))) ∧ Aside0 (wc.heap[gb445]? = some (.cells #[.int .i64 t441,.bool t443,.int .i64 0] 30 (0,0))) ∧ Aside0 (IsS96 w0 wc g s0_0 t444) ∧ Aside0 (KeepBut w wc g none) ∧ Aside0 (Below w0.heap.size w0 wc))
  case first =>
   have H:=HC22.out
   clear HC22
   by_cases c23:t448.toList = ([110,56]:List UInt8)
   ·rw [if_pos c23] at H
    have c23b0:(t448.toList == ([110,56]:List UInt8)) = true:=beq_iff_eq.mpr c23
    have c23b1:(t448.toList != ([110,56]:List UInt8)) = false:=bne_eq_false_iff_eq.mpr c23
    clear c23
    (first | rw [c23b0] | (simp only [i64_w,i32_w];rw [c23b0]) | rw [c23b9] | skip)
    have H':=Aside0.mk H
    clear H
    go_wp2
    go_meet
    case rel => exact ⟨_,((t448.toList == ([110,56]:List UInt8))),q92_,H',⟨q121_⟩,⟨q76_⟩,⟨q77_⟩,⟨q35_⟩,⟨q36_⟩,⟨q27_⟩⟩
   rw [if_neg c23] at H
   have c23b0:(t448.toList == ([110,56]:List UInt8)) = false:=beq_eq_false_iff_ne.mpr c23
   have c23b1:(t448.toList != ([110,56]:List UInt8)) = true:=bne_iff_ne.mpr c23
   (first | rw [c23b0] | (simp only [i64_w,i32_w];rw [c23b0]) | rw [c23b9] | skip)
   have H':=Aside0.mk H
   clear H
   go_wp2
   go_meet
   case rel => exact ⟨_,((t448.toList == ([101,56]:List UInt8))),q92_,H',⟨q121_⟩,⟨q76_⟩,⟨q77_⟩,⟨q35_⟩,⟨q36_⟩,⟨q27_⟩⟩
  clear HC22
  try clear c1
  try clear c2
  try clear p2
  try clear c4
  try clear c5
  try clear c6
  try clear p6
  try clear c11
  try clear c12
  try clear c16
  try clear c16b0
  try clear c16b1
  try clear c19
  try clear c20
  try clear c23
  try clear c23b0
  try clear c23b1
  try clear hcz13_0 hcz13_1 hcz13_2
  try clear hcz21_0 hcz21_1 hcz21_2
  try clear hfz13_0 hfz13_1 hfz13_2
  try clear hfz21_0 hfz21_1 hfz21_2
  obtain ⟨kq,x26_21,rfl,HA,HJ21,BK440,BK445,HI0,HK,HB⟩:=hcut
  cases kq with
  | zero => exact absurd HA.out (by simp [spec_l1Rd_ins.j0])
  | succ kj21 =>
   have H:=HA.out
   clear HA
   simp only [spec_l1Rd_ins.j0] at H
   by_cases c24:x26_21 = true
   ·subst c24
    rewrite [if_pos rfl] at H
    replace H:=Option.bind_eq_some_iff.mp H
    obtain ⟨⟨t451,t452⟩,A250,H⟩:=H
    try dsimp -simprocs -eta only at H
    have A25:=Aside0.mk A250
    clear A250
    have H':=Aside0.mk H
    clear H
    go_wp2_with (first | ((with_reducible refine gate_callee (f:=104) rfl ?_);refine goesL_ (some 30) rfl rfl Tryz.func104 (by kernel_rfl) rfl #[.pointer (some ⟨g,0,none⟩)] rfl q71_ ?_;(with_reducible refine (spec_l1Rd_byte.calls g s0_0 t444 t451 t452 w0 _ ?side1 ?side2 A25.out).mono ?_);(case side1 => exact q130_);(case side2 => exact q129_);rintro e w26 ⟨rfl,hi,hb,hk⟩;refine ⟨_,rfl,?_⟩;have n0_:=Aside0.mk (KeepBut.blk hk (g':=gb440) (o:=.cells #[.int .i64 0,.bool false,.int .i64 0] 30 (0,0)) q76_ NB440_0.out (by simp));have n1_:=Aside0.mk (KeepBut.blk hk (g':=gb445) (o:=.cells #[.int .i64 t441,.bool t443,.int .i64 0] 30 (0,0)) q77_ NB445_0.out (by simp));have n2_:=Aside0.mk (KeepBut.trans q36_ hk (.inl rfl));have n3_:=Aside0.mk (hb);have n4_:=Aside0.mk (hi);clear BK440;clear BK445;clear HK;clear HB;clear HI0;have BK440:=n0_;have BK445:=n1_;have HK:=n2_;have HB:=n3_;have HI0:=n4_;clear n0_ n1_ n2_ n3_ n4_;(try clear hb);(try clear hk);(try clear hi);have hnb27:=NB445_440.out;have hnc27:=NB440_445.out;have hnb28:=NB445_0.out;have hnc28:=NB0_445.out;have hcz29_0:w26.cell? ⟨gb445,0,none⟩ = some (.int .i64 t441):=(blk_cell BK445.out 0).trans rfl;have hcz29_1:w26.cell? ⟨gb445,1,none⟩ = some (.bool t443):=(blk_cell BK445.out 1).trans rfl;have hcz29_2:w26.cell? ⟨gb445,2,none⟩ = some (.int .i64 0):=(blk_cell BK445.out 2).trans rfl;have hfz29_0:=blk_frozen BK445.out 0;have hfz29_1:=blk_frozen BK445.out 1;have hfz29_2:=blk_frozen BK445.out 2))
    go_meet
    case rel => exact ⟨_,(t452),(t451),H',⟨by have:=HJ21.out;first | omega | exact Nat.le_refl _⟩,⟨q17_⟩,⟨q11_⟩,⟨q35_⟩,⟨q36_⟩,⟨q27_⟩⟩
   replace c24:=Bool.eq_false_iff.mpr c24
   subst c24
   rewrite [if_neg (show ¬ (false = true) by decide)] at H
   have H':=Aside0.mk H
   clear H
   go_wp2
   go_meet
   case rel => exact ⟨_,(t444),(0),H',⟨by have:=HJ21.out;first | omega | exact Nat.le_refl _⟩,⟨q76_⟩,⟨q77_⟩,⟨q35_⟩,⟨q36_⟩,⟨q27_⟩⟩
 clear HC6
 try clear c1
 try clear c2
 try clear p2 p2
 try clear c4
 try clear c5
 try clear c6
 try clear p6 p6
 try clear c10
 try clear c11
 try clear c12
 try clear c16
 try clear c16b0
 try clear c16b1
 try clear c19
 try clear c20
 try clear c23
 try clear c23b0
 try clear c23b1
 try clear c24
 try clear c27
 try clear c28
 try clear hcz13_0 hcz13_1 hcz13_2
 try clear hcz21_0 hcz21_1 hcz21_2
 try clear hcz29_0 hcz29_1 hcz29_2
 try clear hfz13_0 hfz13_1 hfz13_2
 try clear hfz21_0 hfz21_1 hfz21_2
 try clear hfz29_0 hfz29_1 hfz29_2
 obtain ⟨kq,x1001_5,x446002_5,HA,HJ5,BK440,BK445,HI0,HK,HB⟩:=hcut
 cases kq with
 | zero => exact absurd HA.out (by simp [spec_l1Rd_ins.j1])
 | succ kj5 =>
  have H:=HA.out
  clear HA
  simp only [spec_l1Rd_ins.j1] at H
  replace H:=Option.bind_eq_some_iff.mp H
  obtain ⟨⟨t453,t454⟩,A300,H⟩:=H
  try dsimp -simprocs -eta only at H
  have A30:=Aside0.mk A300
  clear A300
  by_cases c31:t453 = true
  ·subst c31
   rewrite [if_pos rfl] at H
   replace H:=Option.bind_eq_some_iff.mp H
   obtain ⟨⟨t455,t456⟩,A320,H⟩:=H
   try dsimp -simprocs -eta only at H
   have A32:=Aside0.mk A320
   clear A320
   simp only [Option.some.injEq,Prod.mk.injEq] at H
   obtain ⟨rfl,rfl,rfl,rfl⟩:=H
   go_wp2_with (first | ((with_reducible refine gate_callee (f:=45) rfl ?_);refine goesL_ (some 33) rfl rfl Tryz.func45 (by kernel_rfl) rfl #[.pointer (some ⟨g,0,none⟩),.int .i64 40] rfl q71_ ?_;(with_reducible refine (spec_l1Rd_once.calls g s0_0 x1001_5 40 true t454 w0 _ ?side1 ?side2 A30.out).mono ?_);(case side1 => exact q130_);(case side2 => exact q129_);rintro e w33 ⟨rfl,hi,hb,hk⟩;refine ⟨_,rfl,?_⟩;have n0_:=Aside0.mk (KeepBut.blk hk (g':=gb440) (o:=.cells #[.int .i64 0,.bool false,.int .i64 0] 30 (0,0)) q76_ NB440_0.out (by simp));have n1_:=Aside0.mk (KeepBut.blk hk (g':=gb445) (o:=.cells #[.int .i64 t441,.bool t443,.int .i64 x446002_5] 30 (0,0)) q77_ NB445_0.out (by simp));have n2_:=Aside0.mk (KeepBut.trans q36_ hk (.inl rfl));have n3_:=Aside0.mk (hb);have n4_:=Aside0.mk (hi);clear BK440;clear BK445;clear HK;clear HB;clear HI0;have BK440:=n0_;have BK445:=n1_;have HK:=n2_;have HB:=n3_;have HI0:=n4_;clear n0_ n1_ n2_ n3_ n4_;(try clear hb);(try clear hk);(try clear hi)) | ((with_reducible refine gate_callee (f:=105) rfl ?_);refine goesL_ (some 35) rfl rfl Tryz.func105 (by kernel_rfl) rfl #[.pointer (some ⟨g,0,none⟩),.int .i64 0,.int .i64 255] rfl q71_ ?_;(with_reducible refine (spec_l1Rd_off.calls kj5 g s0_0 t454 0 255 t455 t456 w0 _ ?side1 ?side2 A32.out).mono ?_);(case side1 => exact q130_);(case side2 => exact q129_);rintro e w34 ⟨rfl,hi,hb,hk⟩;refine ⟨_,rfl,?_⟩;have n0_:=Aside0.mk (KeepBut.blk hk (g':=gb440) (o:=.cells #[.int .i64 0,.bool false,.int .i64 0] 30 (0,0)) q76_ NB440_0.out (by simp));have n1_:=Aside0.mk (KeepBut.blk hk (g':=gb445) (o:=.cells #[.int .i64 t441,.bool t443,.int .i64 x446002_5] 30 (0,0)) q77_ NB445_0.out (by simp));have n2_:=Aside0.mk (KeepBut.trans q36_ hk (.inl rfl));have n3_:=Aside0.mk (hb);have n4_:=Aside0.mk (hi);clear BK440;clear BK445;clear HK;clear HB;clear HI0;have BK440:=n0_;have BK445:=n1_;have HK:=n2_;have HB:=n3_;have HI0:=n4_;clear n0_ n1_ n2_ n3_ n4_;(try clear hb);(try clear hk);(try clear hi);have hnb35:=NB445_440.out;have hnc35:=NB440_445.out;have hnb36:=NB445_0.out;have hnc36:=NB0_445.out;have hcz37_0:w34.cell? ⟨gb445,0,none⟩ = some (.int .i64 t441):=(blk_cell BK445.out 0).trans rfl;have hcz37_1:w34.cell? ⟨gb445,1,none⟩ = some (.bool t443):=(blk_cell BK445.out 1).trans rfl;have hcz37_2:w34.cell? ⟨gb445,2,none⟩ = some (.int .i64 x446002_5):=(blk_cell BK445.out 2).trans rfl;have hfz37_0:=blk_frozen BK445.out 0;have hfz37_1:=blk_frozen BK445.out 1;have hfz37_2:=blk_frozen BK445.out 2;have hnb38:=NB440_0.out;have hnc38:=NB0_440.out;have hcz39_0:w34.cell? ⟨gb440,0,none⟩ = some (.int .i64 0):=(blk_cell BK440.out 0).trans rfl;have hcz39_1:w34.cell? ⟨gb440,1,none⟩ = some (.bool false):=(blk_cell BK440.out 1).trans rfl;have hcz39_2:w34.cell? ⟨gb440,2,none⟩ = some (.int .i64 0):=(blk_cell BK440.out 2).trans rfl;have hfz39_0:=blk_frozen BK440.out 0;have hfz39_1:=blk_frozen BK440.out 1;have hfz39_2:=blk_frozen BK440.out 2))
   refine bodyPost_ret (results_cell_row rfl _ _ gb440 30 #[.int .i64 t441,.bool t443,.int .i64 t455] (0,0) _ rfl (by (with_reducible repeat (first | refine blk_drewN ?_ _ | refine blk_drew ?_ | refine blk_alloc ?_ _));refine blk_put (cs:=#[.int .i64 t441,.bool t443,.int .i64 0]) ?_ 2 _ rfl;(with_reducible repeat (first | refine blk_drewN ?_ _ | refine blk_drew ?_ | refine blk_alloc ?_ _));refine blk_put (cs:=#[.int .i64 t441,.bool false,.int .i64 0]) ?_ 1 _ rfl;(with_reducible repeat (first | refine blk_drewN ?_ _ | refine blk_drew ?_ | refine blk_alloc ?_ _));refine blk_put (cs:=#[.int .i64 0,.bool false,.int .i64 0]) ?_ 0 _ rfl;(with_reducible repeat (first | refine blk_drewN ?_ _ | refine blk_drew ?_ | refine blk_alloc ?_ _));refine blk_far ?_ NB440_445.out _;(with_reducible repeat (first | refine blk_drewN ?_ _ | refine blk_drew ?_ | refine blk_alloc ?_ _));exact BK440.out) Tryz.underlying30 rfl (by kernel_rfl)) rfl ?_
   exact ⟨q74_,q35_,q27_,q36_⟩
  replace c31:=Bool.eq_false_iff.mpr c31
  subst c31
  rewrite [if_neg (show ¬ (false = true) by decide)] at H
  simp only [Option.some.injEq,Prod.mk.injEq] at H
  obtain ⟨rfl,rfl,rfl,rfl⟩:=H
  go_wp2_with (first | ((with_reducible refine gate_callee (f:=45) rfl ?_);refine goesL_ (some 33) rfl rfl Tryz.func45 (by kernel_rfl) rfl #[.pointer (some ⟨g,0,none⟩),.int .i64 40] rfl q71_ ?_;(with_reducible refine (spec_l1Rd_once.calls g s0_0 x1001_5 40 false t454 w0 _ ?side1 ?side2 A30.out).mono ?_);(case side1 => exact q130_);(case side2 => exact q129_);rintro e w40 ⟨rfl,hi,hb,hk⟩;refine ⟨_,rfl,?_⟩;have n0_:=Aside0.mk (KeepBut.blk hk (g':=gb440) (o:=.cells #[.int .i64 0,.bool false,.int .i64 0] 30 (0,0)) q76_ NB440_0.out (by simp));have n1_:=Aside0.mk (KeepBut.blk hk (g':=gb445) (o:=.cells #[.int .i64 t441,.bool t443,.int .i64 x446002_5] 30 (0,0)) q77_ NB445_0.out (by simp));have n2_:=Aside0.mk (KeepBut.trans q36_ hk (.inl rfl));have n3_:=Aside0.mk (hb);have n4_:=Aside0.mk (hi);clear BK440;clear BK445;clear HK;clear HB;clear HI0;have BK440:=n0_;have BK445:=n1_;have HK:=n2_;have HB:=n3_;have HI0:=n4_;clear n0_ n1_ n2_ n3_ n4_;(try clear hb);(try clear hk);(try clear hi);have hnb41:=NB445_440.out;have hnc41:=NB440_445.out;have hnb42:=NB445_0.out;have hnc42:=NB0_445.out;have hcz43_0:w40.cell? ⟨gb445,0,none⟩ = some (.int .i64 t441):=(blk_cell BK445.out 0).trans rfl;have hcz43_1:w40.cell? ⟨gb445,1,none⟩ = some (.bool t443):=(blk_cell BK445.out 1).trans rfl;have hcz43_2:w40.cell? ⟨gb445,2,none⟩ = some (.int .i64 x446002_5):=(blk_cell BK445.out 2).trans rfl;have hfz43_0:=blk_frozen BK445.out 0;have hfz43_1:=blk_frozen BK445.out 1;have hfz43_2:=blk_frozen BK445.out 2;have hnb44:=NB440_0.out;have hnc44:=NB0_440.out;have hcz45_0:w40.cell? ⟨gb440,0,none⟩ = some (.int .i64 0):=(blk_cell BK440.out 0).trans rfl;have hcz45_1:w40.cell? ⟨gb440,1,none⟩ = some (.bool false):=(blk_cell BK440.out 1).trans rfl;have hcz45_2:w40.cell? ⟨gb440,2,none⟩ = some (.int .i64 0):=(blk_cell BK440.out 2).trans rfl;have hfz45_0:=blk_frozen BK440.out 0;have hfz45_1:=blk_frozen BK440.out 1;have hfz45_2:=blk_frozen BK440.out 2))
  refine bodyPost_ret (results_cell_row rfl _ _ gb440 30 #[.int .i64 t441,.bool t443,.int .i64 x446002_5] (0,0) _ rfl (by (with_reducible repeat (first | refine blk_drewN ?_ _ | refine blk_drew ?_ | refine blk_alloc ?_ _));refine blk_put (cs:=#[.int .i64 t441,.bool t443,.int .i64 0]) ?_ 2 _ rfl;(with_reducible repeat (first | refine blk_drewN ?_ _ | refine blk_drew ?_ | refine blk_alloc ?_ _));refine blk_put (cs:=#[.int .i64 t441,.bool false,.int .i64 0]) ?_ 1 _ rfl;(with_reducible repeat (first | refine blk_drewN ?_ _ | refine blk_drew ?_ | refine blk_alloc ?_ _));refine blk_put (cs:=#[.int .i64 0,.bool false,.int .i64 0]) ?_ 0 _ rfl;(with_reducible repeat (first | refine blk_drewN ?_ _ | refine blk_drew ?_ | refine blk_alloc ?_ _));exact BK440.out) Tryz.underlying30 rfl (by kernel_rfl)) rfl ?_
  exact ⟨q74_,q35_,q27_,q36_⟩
def spec_DrawInsOk.f (k:Nat) (l0:List Int):Option (Int × Bool × Int):=(spec_l1Open.f l0).bind fun bt458 => ((spec_l1Rd_ins.f k bt458.1 bt458.2).bind fun bt461 => (some (bt461.1,bt461.2.1,bt461.2.2.1)))
theorem spec_DrawInsOk.calls (k:Nat) (A0:Option Addr) (c0:Nat) (l0:List Int) (r1:Int) (r2:Bool) (r3:Int) (w:World) (hr0:Kd.C (Kd.int .u8) w A0 l0.length l0) (hc0:l0.length ≤ c0) (h:spec_DrawInsOk.f k l0 = some (r1,r2,r3)) :
  Calls Tryz.prog 56 #[.slice A0 l0.length c0] w fun e w' => e = .returned (.agg #[.int .i64 r1,.bool r2,.int .i64 r3]) ∧ Below w.heap.size w w':=by
 have hu30:=Tryz.underlying30
 have HR0:=Aside0.mk hr0
 have HC0:=Aside0.mk hc0
 clear hr0 hc0
 have HB:=Aside0.mk (Below.refl w.heap.size w)
 have H:=h;unfold spec_DrawInsOk.f at H
 clear h
 replace H:=Option.bind_eq_some_iff.mp H
 obtain ⟨⟨t458,t459⟩,A20,H⟩:=H
 try dsimp -simprocs -eta only at H
 have A2:=Aside0.mk A20
 clear A20
 replace H:=Option.bind_eq_some_iff.mp H
 obtain ⟨⟨t461,t462,t463,t464⟩,A30,H⟩:=H
 try dsimp -simprocs -eta only at H
 have A3:=Aside0.mk A30
 clear A30
 simp only [Option.some.injEq,Prod.mk.injEq] at H
 obtain ⟨rfl,rfl,rfl⟩:=H
 go_enter Tryz.func56,Tryz.ntmps56
 go_wp2_with (first | ((with_reducible refine gate_dst (N:=2) rfl ?_);refine box_event ?hg (N:=2) ?hd (cs:=#[.int .i64 0,.bool false,.int .i64 0]) (t:=30) ?hr ?_;(case hd => rfl);(case hg => rfl);(case hr => exact q139_);intro gb457 hg w4 hbox hb;have n0_:=Aside0.mk (below_step q72_ hb);have n1_:=Aside0.mk (hbox);have n2_:=Aside0.mk ((q56_:w.heap.size ≤ gb457));have n3_:=Aside0.mk ((q56_:w.heap.size ≤ gb457));clear HB;have HB:=n0_;have BK457:=n1_;have GW457:=n2_;have GE457:=n3_;clear n0_ n1_ n2_ n3_;clear hb hbox hg) | ((with_reducible refine gate_callee (f:=43) rfl ?_);refine goesL_ (some 5) rfl rfl Tryz.func43 (by kernel_rfl) rfl #[.slice A0 l0.length c0] rfl q71_ ?_;(with_reducible refine (spec_l1Open.calls _ _ l0 t458 t459 w _ ?side1 ?side2 ?side3 A2.out).mono ?_);(case side1 => repeat (first | (with_reducible first | exact HB.out | apply below_alloc | apply pw_below_drewN | apply below_drew1 | refine below_set ?_ GE457.out) | exact HB.out));(case side2 => exact HR0.out);(case side3 => exact HC0.out);rintro e w5 ⟨g460,rfl,hi,hb,hb2⟩;refine ⟨_,rfl,?_⟩;have n0_:=Aside0.mk (blk_below (g:=gb457) (o:=.cells #[.int .i64 0,.bool false,.int .i64 0] 30 (0,0)) q78_ hb2);have n1_:=Aside0.mk (hb);have n2_:=Aside0.mk (hi);have n3_:=Aside0.mk (IsS96.ne_blk hi (blk_below (g:=gb457) (o:=.cells #[.int .i64 0,.bool false,.int .i64 0] 30 (0,0)) q78_ hb2) (by decide));have n4_:=Aside0.mk (Ne.symm (IsS96.ne_blk hi (blk_below (g:=gb457) (o:=.cells #[.int .i64 0,.bool false,.int .i64 0] 30 (0,0)) q78_ hb2) (by decide)));clear BK457;clear HB;have BK457:=n0_;have HB:=n1_;have HI460:=n2_;have NB460_457:=n3_;have NB457_460:=n4_;clear n0_ n1_ n2_ n3_ n4_;(try clear hb);(try clear hb2);(try clear hi)) | ((with_reducible refine gate_callee (f:=62) rfl ?_);refine goesL_ (some 7) rfl rfl Tryz.func62 (by kernel_rfl) rfl #[.pointer (some ⟨g460,0,none⟩)] rfl q71_ ?_;(with_reducible refine (spec_l1Rd_ins.calls k g460 t458 t459 t461 t462 t463 t464 w _ ?side1 ?side2 A3.out).mono ?_);(case side1 => repeat (first | (with_reducible first | exact HI460.out | apply IsS96.alloc | apply IsS96.drewN | apply IsS96.drew | apply IsS96.set_1 | refine IsS96.far ?_ NB460_457.out _) | exact HI460.out));(case side2 => repeat (first | (with_reducible first | exact HB.out | apply below_alloc | apply pw_below_drewN | apply below_drew1 | refine below_set ?_ (IsS96.ge HI460.out) | refine below_set ?_ GE457.out) | exact HB.out));rintro e w6 ⟨rfl,hi,hb,hk⟩;refine ⟨_,rfl,?_⟩;have n0_:=Aside0.mk (KeepBut.blk hk (g':=gb457) (o:=.cells #[.int .i64 0,.bool false,.int .i64 0] 30 (0,0)) q78_ NB457_460.out (by simp));have n1_:=Aside0.mk (hb);have n2_:=Aside0.mk (hi);clear BK457;clear HB;clear HI460;have BK457:=n0_;have HB:=n1_;have HI460:=n2_;clear n0_ n1_ n2_;(try clear hb);(try clear hk);(try clear hi);have hnb7:=NB457_460.out;have hnc7:=NB460_457.out;have hcz8_0:w6.cell? ⟨gb457,0,none⟩ = some (.int .i64 0):=(blk_cell BK457.out 0).trans rfl;have hcz8_1:w6.cell? ⟨gb457,1,none⟩ = some (.bool false):=(blk_cell BK457.out 1).trans rfl;have hcz8_2:w6.cell? ⟨gb457,2,none⟩ = some (.int .i64 0):=(blk_cell BK457.out 2).trans rfl;have hfz8_0:=blk_frozen BK457.out 0;have hfz8_1:=blk_frozen BK457.out 1;have hfz8_2:=blk_frozen BK457.out 2))
 refine bodyPost_ret (results_cell_row rfl _ _ gb457 30 #[.int .i64 t461,.bool t462,.int .i64 t463] (0,0) _ rfl (by (with_reducible repeat (first | refine blk_drewN ?_ _ | refine blk_drew ?_ | refine blk_alloc ?_ _));refine blk_put (cs:=#[.int .i64 t461,.bool t462,.int .i64 0]) ?_ 2 _ rfl;(with_reducible repeat (first | refine blk_drewN ?_ _ | refine blk_drew ?_ | refine blk_alloc ?_ _));refine blk_put (cs:=#[.int .i64 t461,.bool false,.int .i64 0]) ?_ 1 _ rfl;(with_reducible repeat (first | refine blk_drewN ?_ _ | refine blk_drew ?_ | refine blk_alloc ?_ _));refine blk_put (cs:=#[.int .i64 0,.bool false,.int .i64 0]) ?_ 0 _ rfl;(with_reducible repeat (first | refine blk_drewN ?_ _ | refine blk_drew ?_ | refine blk_alloc ?_ _));exact BK457.out) Tryz.underlying30 rfl (by kernel_rfl)) rfl ?_
 exact ⟨q74_,by repeat (first | (with_reducible first | exact HB.out | apply below_alloc | apply pw_below_drewN | apply below_drew1 | refine below_set ?_ (IsS96.ge HI460.out) | refine below_set ?_ GE457.out) | exact HB.out)⟩
def spec_DrawInsText.f (k:Nat) (l0:List Int):Option (Int × Bool × Int):=(spec_DrawInsOk.f k l0).bind fun bt466 => (some (bt466.1,bt466.2.1,bt466.2.2))
theorem spec_DrawInsText.calls (k:Nat) (A0:Option Addr) (c0:Nat) (l0:List Int) (r1:Int) (r2:Bool) (r3:Int) (w:World) (hr0:Kd.C (Kd.int .u8) w A0 l0.length l0) (hc0:l0.length ≤ c0) (h:spec_DrawInsText.f k l0 = some (r1,r2,r3)) :
  Calls Tryz.prog 25 #[.slice A0 l0.length c0] w fun e w' => e = .returned (.agg #[.int .i64 r1,.bool r2,.int .i64 r3]) ∧ Below w.heap.size w w':=by
 have hu30:=Tryz.underlying30
 have HR0:=Aside0.mk hr0
 have HC0:=Aside0.mk hc0
 clear hr0 hc0
 have HB:=Aside0.mk (Below.refl w.heap.size w)
 have H:=h;unfold spec_DrawInsText.f at H
 clear h
 replace H:=Option.bind_eq_some_iff.mp H
 obtain ⟨⟨t466,t467,t468⟩,A20,H⟩:=H
 try dsimp -simprocs -eta only at H
 have A2:=Aside0.mk A20
 clear A20
 simp only [Option.some.injEq,Prod.mk.injEq] at H
 obtain ⟨rfl,rfl,rfl⟩:=H
 go_enter Tryz.func25,Tryz.ntmps25
 go_wp2_with (first | ((with_reducible refine gate_dst (N:=2) rfl ?_);refine box_event ?hg (N:=2) ?hd (cs:=#[.int .i64 0,.bool false,.int .i64 0]) (t:=30) ?hr ?_;(case hd => rfl);(case hg => rfl);(case hr => exact q139_);intro gb465 hg w3 hbox hb;have n0_:=Aside0.mk (below_step q72_ hb);have n1_:=Aside0.mk (hbox);have n2_:=Aside0.mk ((q56_:w.heap.size ≤ gb465));have n3_:=Aside0.mk ((q56_:w.heap.size ≤ gb465));clear HB;have HB:=n0_;have BK465:=n1_;have GW465:=n2_;have GE465:=n3_;clear n0_ n1_ n2_ n3_;clear hb hbox hg) | ((with_reducible refine gate_callee (f:=56) rfl ?_);refine goesL_ (some 4) rfl rfl Tryz.func56 (by kernel_rfl) rfl #[.slice A0 l0.length c0] rfl q71_ ?_;(with_reducible refine (spec_DrawInsOk.calls k _ _ l0 t466 t467 t468 _ ?side1 ?side2 A2.out).mono ?_);(case side1 => exact q135_);(case side2 => exact HC0.out);rintro e w4 ⟨rfl,hb⟩;refine ⟨_,rfl,?_⟩;have n0_:=Aside0.mk (blk_below (g:=gb465) (o:=.cells #[.int .i64 0,.bool false,.int .i64 0] 30 (0,0)) (by (with_reducible repeat (first | refine blk_drewN ?_ _ | refine blk_drew ?_ | refine blk_alloc ?_ _));exact BK465.out) hb);have n1_:=Aside0.mk (below_step q58_ hb);clear BK465;clear HB;have BK465:=n0_;have HB:=n1_;clear n0_ n1_;(try clear hb);have hcz5_0:w4.cell? ⟨gb465,0,none⟩ = some (.int .i64 0):=(blk_cell BK465.out 0).trans rfl;have hcz5_1:w4.cell? ⟨gb465,1,none⟩ = some (.bool false):=(blk_cell BK465.out 1).trans rfl;have hcz5_2:w4.cell? ⟨gb465,2,none⟩ = some (.int .i64 0):=(blk_cell BK465.out 2).trans rfl;have hfz5_0:=blk_frozen BK465.out 0;have hfz5_1:=blk_frozen BK465.out 1;have hfz5_2:=blk_frozen BK465.out 2))
 refine bodyPost_ret (results_cell_row rfl _ _ gb465 30 #[.int .i64 t466,.bool t467,.int .i64 t468] (0,0) _ rfl (by (with_reducible repeat (first | refine blk_drewN ?_ _ | refine blk_drew ?_ | refine blk_alloc ?_ _));refine blk_put (cs:=#[.int .i64 t466,.bool t467,.int .i64 0]) ?_ 2 _ rfl;(with_reducible repeat (first | refine blk_drewN ?_ _ | refine blk_drew ?_ | refine blk_alloc ?_ _));refine blk_put (cs:=#[.int .i64 t466,.bool false,.int .i64 0]) ?_ 1 _ rfl;(with_reducible repeat (first | refine blk_drewN ?_ _ | refine blk_drew ?_ | refine blk_alloc ?_ _));refine blk_put (cs:=#[.int .i64 0,.bool false,.int .i64 0]) ?_ 0 _ rfl;(with_reducible repeat (first | refine blk_drewN ?_ _ | refine blk_drew ?_ | refine blk_alloc ?_ _));exact BK465.out) Tryz.underlying30 rfl (by kernel_rfl)) rfl ?_
 exact ⟨q74_,q58_⟩
def impl_SignedOf.f (a0:Int):Option (Int):=(impl_isByte.f a0).bind fun t469 => (if t469 = true then (if a0 > 127 then (some (wrap64 (a0 - 256))) else (some a0)) else (some 0))
theorem impl_SignedOf.calls (a0:Int) (r:Int) (w:World) (h:impl_SignedOf.f a0 = some r) :
  Calls Tryz.prog 113 #[.int .i64 a0] w fun e w' => e = .returned (.int .i64 r) ∧ Drawn0 w w':=by
 have H:=h;unfold impl_SignedOf.f at H
 clear h
 replace H:=Option.bind_eq_some_iff.mp H
 obtain ⟨t469,A20,H⟩:=H
 have A2:=Aside0.mk A20
 clear A20
 by_cases c3:t469 = true
 ·subst c3
  rewrite [if_pos rfl] at H
  by_cases c4:a0 > 127
  ·rw [if_pos c4] at H
   have c4b0:decide (127 < a0) = true:=decide_eq_true c4
   clear c4
   obtain rfl:=Option.some.inj H
   go_enter Tryz.func113,Tryz.ntmps113
   go_wp2_with (first | ((with_reducible refine gate_callee (f:=58) rfl ?_);refine goesL_ (some 5) rfl rfl Tryz.func58 (by kernel_rfl) rfl #[.int .i64 a0] rfl q71_ ?_;(with_reducible refine (impl_isByte.calls a0 true _ A2.out).mono ?_);rintro e w' ⟨rfl,⟨nd,rfl⟩⟩;refine ⟨_,rfl,?_⟩))
   go_ret
   exact ⟨q92_,q108_⟩
  rw [if_neg c4] at H
  have c4b0:decide (127 < a0) = false:=decide_eq_false c4
  clear c4
  obtain rfl:=Option.some.inj H
  go_enter Tryz.func113,Tryz.ntmps113
  go_wp2_with (first | ((with_reducible refine gate_callee (f:=58) rfl ?_);refine goesL_ (some 5) rfl rfl Tryz.func58 (by kernel_rfl) rfl #[.int .i64 a0] rfl q71_ ?_;(with_reducible refine (impl_isByte.calls a0 true _ A2.out).mono ?_);rintro e w' ⟨rfl,⟨nd,rfl⟩⟩;refine ⟨_,rfl,?_⟩))
  go_ret
  exact ⟨q92_,q108_⟩
 replace c3:=Bool.eq_false_iff.mpr c3
 subst c3
 rewrite [if_neg (show ¬ (false = true) by decide)] at H
 obtain rfl:=Option.some.inj H
 go_enter Tryz.func113,Tryz.ntmps113
 go_wp2_with (first | ((with_reducible refine gate_callee (f:=58) rfl ?_);refine goesL_ (some 5) rfl rfl Tryz.func58 (by kernel_rfl) rfl #[.int .i64 a0] rfl q71_ ?_;(with_reducible refine (impl_isByte.calls a0 false _ A2.out).mono ?_);rintro e w' ⟨rfl,⟨nd,rfl⟩⟩;refine ⟨_,rfl,?_⟩))
 go_ret
 exact ⟨q92_,q108_⟩
def impl_filling.f (k:Nat) (a0:ByteArray) (a1:Int):Option (ByteArray):=if a0.toList = ([110,56]:List UInt8) then ((impl_HexOf.f k a1 2).bind fun t470 => (some t470)) else (if a0.toList = ([110,49,54]:List UInt8) then ((impl_HexOf.f k a1 4).bind fun t471 => (some t471)) else ((impl_SignedOf.f a1).bind fun t472 => ((impl_decimal.f t472).bind fun t473 => (some t473))))
theorem impl_filling.calls (k:Nat) (a0:ByteArray) (a1:Int) (r:ByteArray) (w:World) (h:impl_filling.f k a0 a1 = some r) (hG:Go.Proofs.YtodlnnoekccmmaaGreatDoor.LibW.GL w:=by first | exact hG | exact hG.below q10_ | exact hG.drewN _) :
  Calls Tryz.prog 65 #[.string a0,.int .i64 a1] w fun e w' => e = .returned (.string r) ∧ Below w.heap.size w w':=by
 have HB:=Aside0.mk (Below.refl w.heap.size w)
 have H:=h;unfold impl_filling.f at H
 clear h
 by_cases c3:a0.toList = ([110,56]:List UInt8)
 ·rw [if_pos c3] at H
  have c3b0:(a0.toList == ([110,56]:List UInt8)) = true:=beq_iff_eq.mpr c3
  have c3b1:(a0.toList != ([110,56]:List UInt8)) = false:=bne_eq_false_iff_eq.mpr c3
  clear c3
  replace H:=Option.bind_eq_some_iff.mp H
  obtain ⟨t470,A40,H⟩:=H
  have A4:=Aside0.mk A40
  clear A40
  obtain rfl:=Option.some.inj H
  go_enter Tryz.func65,Tryz.ntmps65
  go_wp2_with (first | ((with_reducible refine gate_callee (f:=112) rfl ?_);refine goesL_ (some 9) rfl rfl Tryz.func112 (by kernel_rfl) rfl #[.int .i64 a1,.int .i64 2] rfl q71_ ?_;(with_reducible refine (impl_HexOf.calls k a1 2 t470 _ A4.out).mono ?_);rintro e w5 ⟨rfl,hb⟩;refine ⟨_,rfl,?_⟩;replace HB:=Aside0.mk (below_step q72_ hb);(try clear hb)))
  go_ret
  exact ⟨q74_,q72_⟩
 rw [if_neg c3] at H
 have c3b0:(a0.toList == ([110,56]:List UInt8)) = false:=beq_eq_false_iff_ne.mpr c3
 have c3b1:(a0.toList != ([110,56]:List UInt8)) = true:=bne_iff_ne.mpr c3
 by_cases c6:a0.toList = ([110,49,54]:List UInt8)
 ·rw [if_pos c6] at H
  have c6b0:(a0.toList == ([110,49,54]:List UInt8)) = true:=beq_iff_eq.mpr c6
  have c6b1:(a0.toList != ([110,49,54]:List UInt8)) = false:=bne_eq_false_iff_eq.mpr c6
  clear c6
  replace H:=Option.bind_eq_some_iff.mp H
  obtain ⟨t471,A70,H⟩:=H
  have A7:=Aside0.mk A70
  clear A70
  obtain rfl:=Option.some.inj H
  go_enter Tryz.func65,Tryz.ntmps65
  go_wp2_with (first | ((with_reducible refine gate_callee (f:=112) rfl ?_);refine goesL_ (some 13) rfl rfl Tryz.func112 (by kernel_rfl) rfl #[.int .i64 a1,.int .i64 4] rfl q71_ ?_;(with_reducible refine (impl_HexOf.calls k a1 4 t471 _ A7.out).mono ?_);rintro e w8 ⟨rfl,hb⟩;refine ⟨_,rfl,?_⟩;replace HB:=Aside0.mk (below_step q72_ hb);(try clear hb)))
  go_ret
  exact ⟨q74_,q72_⟩
 rw [if_neg c6] at H
 have c6b0:(a0.toList == ([110,49,54]:List UInt8)) = false:=beq_eq_false_iff_ne.mpr c6
 have c6b1:(a0.toList != ([110,49,54]:List UInt8)) = true:=bne_iff_ne.mpr c6
 replace H:=Option.bind_eq_some_iff.mp H
 obtain ⟨t472,A90,H⟩:=H
 have A9:=Aside0.mk A90
 clear A90
 replace H:=Option.bind_eq_some_iff.mp H
 obtain ⟨t473,A100,H⟩:=H
 have A10:=Aside0.mk A100
 clear A100
 obtain rfl:=Option.some.inj H
 go_enter Tryz.func65,Tryz.ntmps65
 go_wp2_with (first | ((with_reducible refine gate_callee (f:=113) rfl ?_);refine goesL_ (some 15) rfl rfl Tryz.func113 (by kernel_rfl) rfl #[.int .i64 a1] rfl q71_ ?_;(with_reducible refine (impl_SignedOf.calls a1 t472 _ A9.out).mono ?_);rintro e w' ⟨rfl,⟨nd,rfl⟩⟩;refine ⟨_,rfl,?_⟩) | ((with_reducible refine gate_callee (f:=89) rfl ?_);refine goesL_ (some 16) rfl rfl Tryz.func89 (by kernel_rfl) rfl #[.int .i64 t472] rfl q71_ ?_;(with_reducible refine (impl_decimal.calls t472 t473 _ A10.out).mono ?_);rintro e w11 ⟨rfl,hb⟩;refine ⟨_,rfl,?_⟩;replace HB:=Aside0.mk (below_step q72_ hb);(try clear hb)))
 go_ret
 exact ⟨q74_,q72_⟩
end Go.Proofs.YtodlnnoekccmmaaGreatDoor.QFnInsTexts
