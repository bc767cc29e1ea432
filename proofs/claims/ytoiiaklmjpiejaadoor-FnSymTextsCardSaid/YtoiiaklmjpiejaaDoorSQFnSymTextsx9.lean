/- The machine's side of a law,written by a program of this session for this claim. -/
import Derived.Test.YtoiiaklmjpiejaaDoorSQq
import Derived.Test.YtoiiaklmjpiejaaDoorSQFnSymTextsx0
import Derived.Test.YtoiiaklmjpiejaaDoorSQFnSymTextsx7
import Derived.Test.YtoiiaklmjpiejaaDoorSQFnSymTextsx8
namespace Go.Proofs.YtoiiaklmjpiejaaDoor.QFnSymTexts
open Go.Proofs.YtoiiaklmjpiejaaDoor.Qq
open Go.RowKit Go.Proofs.YtoiiaklmjpiejaaDoor.LibX Go.Proofs.YtoiiaklmjpiejaaDoor.LibE Go.Proofs.YtoiiaklmjpiejaaDoor.LibCB Go.Proofs.YtoiiaklmjpiejaaDoor.LibG Go.Proofs.YtoiiaklmjpiejaaDoor.LibSY Go.Proofs.YtoiiaklmjpiejaaDoorW.PrintWords Go.Proofs.YtoiiaklmjpiejaaDoorW.PrintLast Go.Proofs.YtoiiaklmjpiejaaDoorW.PrintMore
attribute [local go_sem] max2_int min2_int max_two min_two max_three min_three max_four min_four   -- for this text's walks alone
set_option maxHeartbeats 8000000
set_option maxRecDepth 100000
set_option linter.unusedVariables false
set_option linter.unusedSimpArgs false
def spec_l1Digit.j0:Nat → Int → Bool → Option (Int)
 | 0,_,_ => none
 | k + 1,x0,x3 => if x3 = true then (some ((x0 - 48) % 256)) else (if x0 ≥ 65 then (if x0 ≤ 70 then (some (((x0 - 65) % 256) + 10)) else (some 99)) else (some 99))
def spec_l1Digit.f (k:Nat) (a0:Int):Option (Int):=if a0 ≥ 48 then (spec_l1Digit.j0 k a0 (decide (a0 ≤ 57))) else (spec_l1Digit.j0 k a0 false)
theorem spec_l1Digit.mono_l:∀ k,(∀ y0 y1,LeO (spec_l1Digit.j0 k y0 y1) (spec_l1Digit.j0 (k + 1) y0 y1))
 | 0 => fun _ _ r h => by simp [spec_l1Digit.j0] at h
 | k + 1 => by
  have ih0:=spec_l1Digit.mono_l k
  intro y0 y1
  unfold spec_l1Digit.j0
  repeat' first
  | (with_reducible first | exact ih0 _ _ | exact LeO.refl _ | exact LeO.none _ | refine LeO.ite ?_ ?_ | refine LeO.bind ?_ (fun _ => ?_))
  | exact ih0 _ _
  | exact LeO.none _
  | refine LeO.ite ?_ ?_
  | refine LeO.bind ?_ (fun _ => ?_)
theorem spec_l1Digit.mono:∀ a0 k,LeO (spec_l1Digit.f k a0) (spec_l1Digit.f (k + 1) a0):=by
 intro a0 k
 have ih0:=spec_l1Digit.mono_l k
 unfold spec_l1Digit.f
 repeat' first
   | (with_reducible first | exact ih0 _ _ | exact LeO.refl _ | exact LeO.none _ | refine LeO.ite ?_ ?_ | refine LeO.bind ?_ (fun _ => ?_))
   | exact ih0 _ _
   | exact LeO.none _
   | refine LeO.ite ?_ ?_
   | refine LeO.bind ?_ (fun _ => ?_)
theorem spec_l1Digit.calls (k:Nat) (a0:Int) (r:Int) (w:World) (h:spec_l1Digit.f k a0 = some r) :
  Calls Tryd.prog 75 #[.int .u8 a0] w fun e w' => e = .returned (.int .i64 r) ∧ Drawn0 w w':=by
 have H:=h;unfold spec_l1Digit.f at H
 clear h
 have HC2:=Aside0.mk H
 clear H
 go_enter Tryd.func75,Tryd.ntmps75
 go_upto_region 1 with (fail)
 go_cut [3] (fun v3 wc => ∃ (kq:Nat) (x3_1:Bool),v3 = .bool x3_1 ∧ Aside0 (spec_l1Digit.j0 kq a0 x3_1 = some r) ∧ Aside0 (kq ≤ k) ∧ Drawn0 w wc)
 case first =>
  have H:=HC2.out
  clear HC2
  by_cases c3:a0 ≥ 48
  ·rw [if_pos c3] at H
   have c3b0:decide (48 ≤ a0) = true:=decide_eq_true c3
   clear c3
   (first | rw [c3b0] | (simp only [i64_w,i32_w];rw [c3b0]) | rw [c3b9] | skip)
   have H':=Aside0.mk H
   clear H
   go_wp2
   go_meet
   case rel => exact ⟨_,(decide (a0 ≤ 57)),q26_,H',⟨q37_⟩,q34_⟩
  rw [if_neg c3] at H
  have c3b0:decide (48 ≤ a0) = false:=decide_eq_false c3
  clear c3
  (first | rw [c3b0] | (simp only [i64_w,i32_w];rw [c3b0]) | rw [c3b9] | skip)
  have H':=Aside0.mk H
  clear H
  go_wp2
  go_meet
  case rel => exact ⟨_,(false),q26_,H',⟨q37_⟩,q34_⟩
 clear HC2
 try clear p2
 try clear c3
 try clear c3b0
 obtain ⟨kq,x3_1,rfl,HA,HJ1,⟨mc1,rfl⟩⟩:=hcut
 cases kq with
 | zero => exact absurd HA.out (by simp [spec_l1Digit.j0])
 | succ kj1 =>
  have H:=HA.out
  clear HA
  simp only [spec_l1Digit.j0] at H
  by_cases c4:x3_1 = true
  ·subst c4
   rewrite [if_pos rfl] at H
   obtain rfl:=Option.some.inj H
   go_wp2
   go_ret
   exact ⟨q26_,q34_⟩
  replace c4:=Bool.eq_false_iff.mpr c4
  subst c4
  rewrite [if_neg (show ¬ (false = true) by decide)] at H
  by_cases c5:a0 ≥ 65
  ·rw [if_pos c5] at H
   have c5b0:decide (65 ≤ a0) = true:=decide_eq_true c5
   clear c5
   by_cases c6:a0 ≤ 70
   ·rw [if_pos c6] at H
    have c6b0:=decide_eq_true c6
    clear c6
    obtain rfl:=Option.some.inj H
    go_wp2
    go_ret
    exact ⟨q26_,q34_⟩
   rw [if_neg c6] at H
   have c6b0:=decide_eq_false c6
   clear c6
   obtain rfl:=Option.some.inj H
   go_wp2
   go_ret
   exact ⟨q26_,q34_⟩
  rw [if_neg c5] at H
  have c5b0:decide (65 ≤ a0) = false:=decide_eq_false c5
  clear c5
  obtain rfl:=Option.some.inj H
  go_wp2
  go_ret
  exact ⟨q26_,q34_⟩
def spec_l1Base.l0:Nat → ByteArray → Int → Int → Int → Option (Int × Bool)
 | 0,_,_,_,_ => none
 | k + 1,x0,x1,x6,x7 => if x7 < (x0.size:Int) then (if 0 ≤ x7 then ((spec_l1Digit.f k (bt x0 x7)).bind fun t221 => (if t221 ≥ x1 then (some (0,false)) else (if (wrap64 ((wrap64 (x6 * x1)) + t221)) > 65535 then (some (0,false)) else (spec_l1Base.l0 k x0 x1 (wrap64 ((wrap64 (x6 * x1)) + t221)) (wrap64 (x7 + 1)))))) else (none)) else (some (x6,(x0.toList != ([]:List UInt8))))
def spec_l1Base.f (k:Nat) (a0:ByteArray) (a1:Int):Option (Int × Bool):=spec_l1Base.l0 k a0 a1 0 0
theorem spec_l1Base.calls (k:Nat) (a0:ByteArray) (a1:Int) (r1:Int) (r2:Bool) (w:World) (h:spec_l1Base.f k a0 a1 = some (r1,r2)) :
  Calls Tryd.prog 53 #[.string a0,.int .i64 a1] w fun e w' => e = .returned (.tuple #[.int .i64 r1,.bool r2]) ∧ Drawn0 w w':=by
 have H:(spec_l1Base.l0 k a0 a1 0 0) = some (r1,r2):=h
 clear h
 have H':=Aside0.mk H
 clear H
 go_enter Tryd.func53,Tryd.ntmps53
 go_wp2
 go_loopg [6,7] k (fun kq v6 v7 w' => ∃ (x6_1:Int) (x7_1:Int),v6 = .int .i64 x6_1 ∧ v7 = .int .i64 x7_1 ∧ Aside0 (spec_l1Base.l0 kq a0 a1 x6_1 x7_1 = some (r1,r2)) ∧ Aside0 (kq ≤ k) ∧ Drawn0 w w')
 case atStart => exact ⟨(0),(0),q26_,q26_,H',⟨Nat.le_refl _⟩,q34_⟩
 clear H'
 try clear p2
 obtain ⟨x6_1,x7_1,rfl,rfl,HA,HK1,⟨m1,rfl⟩⟩:=hrel
 cases gk with
 | zero => exact absurd HA.out (by simp [spec_l1Base.l0])
 | succ k1 =>
  have H:=HA.out
  clear HA
  simp only [spec_l1Base.l0] at H
  by_cases c3:x7_1 < (a0.size:Int)
  ·rw [if_pos c3] at H
   have c3b0:=decide_eq_true c3
   clear c3
   by_cases c4:0 ≤ x7_1
   rotate_left
   ·rw [if_neg c4] at H
    exact absurd H (by simp)
   rw [if_pos c4] at H
   have c4b0:=decide_eq_true c4
   clear c4
   replace H:=Option.bind_eq_some_iff.mp H
   obtain ⟨t221,A60,H⟩:=H
   have A6:=Aside0.mk A60
   clear A60
   by_cases c7:t221 ≥ a1
   ·rw [if_pos c7] at H
    have c7b0:decide (a1 ≤ t221) = true:=decide_eq_true c7
    clear c7
    simp only [Option.some.injEq,Prod.mk.injEq] at H
    obtain ⟨rfl,rfl⟩:=H
    have p5:0 ≤ (x7_1:Int):=of_decide_eq_true q36_
    have q5:x7_1 < (a0.size:Int):=of_decide_eq_true q36_
    have hx5:=bt_at a0 x7_1
    replace p5:=eq_true p5
    replace q5:=eq_true q5
    go_wp2_with (first | ((with_reducible refine gate_callee (f:=75) rfl ?_);refine goesL_ (some 18) rfl rfl Tryd.func75 (by kernel_rfl) rfl #[.int .u8 (bt a0 x7_1)] rfl q19_ ?_;(with_reducible refine (spec_l1Digit.calls k1 (bt a0 x7_1) t221 _ A6.out).mono ?_);rintro e w' ⟨rfl,⟨nd,rfl⟩⟩;refine ⟨_,rfl,?_⟩))
    go_ret2
    exact ⟨q26_,q34_⟩
   rw [if_neg c7] at H
   have c7b0:decide (a1 ≤ t221) = false:=decide_eq_false c7
   clear c7
   by_cases c8:(wrap64 ((wrap64 (x6_1 * a1)) + t221)) > 65535
   ·rw [if_pos c8] at H
    have c8b0:decide (65535 < (wrap64 ((wrap64 (x6_1 * a1)) + t221))) = true:=decide_eq_true c8
    clear c8
    simp only [Option.some.injEq,Prod.mk.injEq] at H
    obtain ⟨rfl,rfl⟩:=H
    have p5:0 ≤ (x7_1:Int):=of_decide_eq_true q36_
    have q5:x7_1 < (a0.size:Int):=of_decide_eq_true q36_
    have hx5:=bt_at a0 x7_1
    replace p5:=eq_true p5
    replace q5:=eq_true q5
    go_wp2_with (first | ((with_reducible refine gate_callee (f:=75) rfl ?_);refine goesL_ (some 18) rfl rfl Tryd.func75 (by kernel_rfl) rfl #[.int .u8 (bt a0 x7_1)] rfl q19_ ?_;(with_reducible refine (spec_l1Digit.calls k1 (bt a0 x7_1) t221 _ A6.out).mono ?_);rintro e w' ⟨rfl,⟨nd,rfl⟩⟩;refine ⟨_,rfl,?_⟩))
    go_ret2
    exact ⟨q26_,q34_⟩
   rw [if_neg c8] at H
   have c8b0:decide (65535 < (wrap64 ((wrap64 (x6_1 * a1)) + t221))) = false:=decide_eq_false c8
   clear c8
   have H':=Aside0.mk H
   clear H
   have p5:0 ≤ (x7_1:Int):=of_decide_eq_true q36_
   have q5:x7_1 < (a0.size:Int):=of_decide_eq_true q36_
   have hx5:=bt_at a0 x7_1
   replace p5:=eq_true p5
   replace q5:=eq_true q5
   go_wp2_with (first | ((with_reducible refine gate_callee (f:=75) rfl ?_);refine goesL_ (some 18) rfl rfl Tryd.func75 (by kernel_rfl) rfl #[.int .u8 (bt a0 x7_1)] rfl q19_ ?_;(with_reducible refine (spec_l1Digit.calls k1 (bt a0 x7_1) t221 _ A6.out).mono ?_);rintro e w' ⟨rfl,⟨nd,rfl⟩⟩;refine ⟨_,rfl,?_⟩))
   go_roundg k1
   case measure => have:=HK1.out;omega
   case rel => exact ⟨(wrap64 ((wrap64 (x6_1 * a1)) + t221)),(wrap64 (x7_1 + 1)),q26_,q26_,H',⟨by have:=HK1.out;omega⟩,q34_⟩
  rw [if_neg c3] at H
  have c3b0:=decide_eq_false c3
  clear c3
  simp only [Option.some.injEq,Prod.mk.injEq] at H
  obtain ⟨rfl,rfl⟩:=H
  go_wp2
  go_ret2
  exact ⟨q26_,q34_⟩
mutual
def spec_ReadSyms.l0:Nat → ByteArray → List (S54) → ByteArray → Option ((List (S54)) × Bool)
 | 0,_,_,_ => none
 | k + 1,x0,x4,x5 => if x5.toList = ([]:List UInt8) then (spec_ReadSyms.j1 k x0 x4 x5 false) else (spec_ReadSyms.j1 k x0 x4 x5 (decide ((x4.length:Int) ≤ 800)))
def spec_ReadSyms.j1:Nat → ByteArray → List (S54) → ByteArray → Bool → Option ((List (S54)) × Bool)
 | 0,_,_,_,_ => none
 | k + 1,x0,x4,x5,x21 => if x21 = true then ((spec_l1Cut.f k x5 10).bind fun bt225 => (if (bt225.1.size:Int) < 9 then (spec_ReadSyms.j2 k x0 x4 bt225.2.1 bt225.1 true) else (spec_ReadSyms.j2 k x0 x4 bt225.2.1 bt225.1 (!bt225.2.2)))) else ((spec_SymText.f k x4).bind fun t235 => (if t235.toList = x0.toList then (some (x4,true)) else (some (([]:List (S54)),false))))
def spec_ReadSyms.j2:Nat → ByteArray → List (S54) → ByteArray → ByteArray → Bool → Option ((List (S54)) × Bool)
 | 0,_,_,_,_,_ => none
 | k + 1,x0,x4,x5,x6,x35 => if x35 = true then (some (([]:List (S54)),false)) else (if 0 ≤ 2 then (if 2 ≤ (x6.size:Int) then ((spec_l1Base.f k (x6.extract 0 2) 16).bind fun bt228 => (if 3 ≤ 7 then (if 7 ≤ (x6.size:Int) then ((spec_l1Base.f k (x6.extract 3 7) 16).bind fun bt230 => (if bt228.2 = true then (if bt230.2 = true then (if 8 ≤ (x6.size:Int) then (if x4.length < 4398046511104 then (spec_ReadSyms.l0 k x0 (x4 ++ [(⟨x6.extract 8 x6.size,bt228.1,bt230.1⟩:S54)]) x5) else (none)) else (none)) else (some (([]:List (S54)),false))) else (some (([]:List (S54)),false)))) else (none)) else (none))) else (none)) else (none))
end
def spec_ReadSyms.f (k:Nat) (a0:ByteArray):Option ((List (S54)) × Bool):=spec_ReadSyms.l0 k a0 (([]:List (S54))) a0
theorem spec_ReadSyms.calls (k:Nat) (a0:ByteArray) (r1:List (S54)) (r2:Bool) (w:World) (h:spec_ReadSyms.f k a0 = some (r1,r2)) :
  Calls Tryd.prog 25 #[.string a0] w fun e w' => ∃ v0_:Value,e = .returned (.tuple #[v0_,.bool r2]) ∧ Kd.R k54 54 w' w.heap.size (fun _ => True) v0_ r1 ∧ Below w.heap.size w w':=by
 have hu54:=Tryd.underlying54
 have HB:=Aside0.mk (Below.refl w.heap.size w)
 have H:=h;unfold spec_ReadSyms.f at H
 clear h
 obtain ⟨y222,hy222⟩:∃ y_:List (S54),y_ = (([]:List (S54))):=⟨_,rfl⟩
 replace H:(spec_ReadSyms.l0 k a0 y222 a0) = some (r1,r2):=by first | (rw [hy222];exact H) | exact H
 have Ny222:=Aside0.mk hy222
 clear hy222
 have H':=Aside0.mk H
 clear H
 go_enter Tryd.func25,Tryd.ntmps25
 go_wp2_with (first | ((with_reducible refine gate_dst (N:=13) rfl ?_);(try (refine gate_guard (by rfl) ?_;dsimp only));refine Kd.R_lit k54 _ 54 ?hg (N:=13) ?hd (xs:=([]:List (S54))) (inner:=[]) (ok:=fun _ => True) (okp:=fun _ => True) ?hr ?hp (fun _ hk => hk) trivial (Below.refl _ _) (Nat.le_refl _) (by simp) ?_;(case hd => rfl);(case hg => rfl);(case hr => exact q51_);(case hp => exact (Reps.none _ _));intro v223 w2 ho3 hb hg_ hnew_;clear hg_ hnew_;(first | rw [← Ny222.out] at ho3 | (simp only [Int.reduceToNat] at ho3;rw [← Ny222.out] at ho3));have n0_:=Aside0.mk (Kd.R_lower ho3 (below_size q20_));have n1_:=Aside0.mk (below_step q20_ hb);clear HB;have HO224:=n0_;have HB:=n1_;clear n0_ n1_;clear hb ho3))
 go_loopg [4,5] k (fun kq v4 v5 w' => ∃ (x4_1:List (S54)) (x5_1:ByteArray),v5 = .string x5_1 ∧ Aside0 (spec_ReadSyms.l0 kq a0 x4_1 x5_1 = some (r1,r2)) ∧ Aside0 (kq ≤ k) ∧ Aside0 (Kd.R k54 54 w' w.heap.size (fun _ => True) v4 x4_1) ∧ Aside0 (Below w.heap.size w w'))
 case atStart => exact ⟨(y222),(a0),q26_,H',⟨Nat.le_refl _⟩,⟨by (with_reducible repeat (first | apply Kd.R_alloc | apply Kd.R_drewN | apply Kd.R_drew));exact HO224.out⟩,⟨q20_⟩⟩
 clear H'
 try clear c2
 try clear p2
 obtain ⟨x4_1,x5_1,rfl,HA,HK1,HO_4,HB⟩:=hrel
 cases gk with
 | zero => exact absurd HA.out (by simp [spec_ReadSyms.l0])
 | succ k1 =>
  have H:=HA.out
  clear HA
  simp only [spec_ReadSyms.l0] at H
  have HC4:=Aside0.mk H
  clear H
  go_upto_region 3 with (fail)
  go_cut [21] (fun v21 wc => ∃ (kq:Nat) (x21_3:Bool),v21 = .bool x21_3 ∧ Aside0 (spec_ReadSyms.j1 kq a0 x4_1 x5_1 x21_3 = some (r1,r2)) ∧ Aside0 (kq ≤ k1) ∧ Aside0 (Kd.R k54 54 wc w.heap.size (fun _ => True) u4 x4_1) ∧ Aside0 (Below w.heap.size w wc))
  case first =>
   have H:=HC4.out
   clear HC4
   by_cases c5:x5_1.toList = ([]:List UInt8)
   ·rw [if_pos c5] at H
    have c5b0:(x5_1.toList == ([]:List UInt8)) = true:=beq_iff_eq.mpr c5
    have c5b1:(x5_1.toList != ([]:List UInt8)) = false:=bne_eq_false_iff_eq.mpr c5
    have c5b9:x5_1.toList.isEmpty = true:=(isEmpty_beq _).trans c5b0
    clear c5
    (first | rw [c5b0] | (simp only [i64_w,i32_w];rw [c5b0]) | rw [c5b9] | skip)
    have H':=Aside0.mk H
    clear H
    go_wp2
    go_meet
    case rel => exact ⟨_,(false),q26_,H',⟨q35_⟩,⟨q31_⟩,⟨q20_⟩⟩
   rw [if_neg c5] at H
   have c5b0:(x5_1.toList == ([]:List UInt8)) = false:=beq_eq_false_iff_ne.mpr c5
   have c5b1:(x5_1.toList != ([]:List UInt8)) = true:=bne_iff_ne.mpr c5
   have c5b9:x5_1.toList.isEmpty = false:=(isEmpty_beq _).trans c5b0
   (first | rw [c5b0] | (simp only [i64_w,i32_w];rw [c5b0]) | rw [c5b9] | skip)
   have H':=Aside0.mk H
   clear H
   obtain ⟨Ao6,co6,eo6⟩:=Kd.R_slice HO_4.out
   subst eo6
   go_wp2
   go_meet
   case rel => exact ⟨_,(decide ((x4_1.length:Int) ≤ 800)),q26_,H',⟨q35_⟩,⟨q31_⟩,⟨q20_⟩⟩
  clear HC4
  try clear c2
  try clear p2 p2
  try clear c5
  try clear c5b0
  try clear c5b1
  try clear p6
  obtain ⟨kq,x21_3,rfl,HA,HJ3,HO_4,HB⟩:=hcut
  cases kq with
  | zero => exact absurd HA.out (by simp [spec_ReadSyms.j1])
  | succ kj3 =>
   have H:=HA.out
   clear HA
   simp only [spec_ReadSyms.j1] at H
   by_cases c7:x21_3 = true
   ·subst c7
    rewrite [if_pos rfl] at H
    replace H:=Option.bind_eq_some_iff.mp H
    obtain ⟨⟨t225,t226,t227⟩,A80,H⟩:=H
    try dsimp -simprocs -eta only at H
    have A8:=Aside0.mk A80
    clear A80
    have HC9:=Aside0.mk H
    clear H
    go_upto_region 6 with (first | ((with_reducible refine gate_callee (f:=34) rfl ?_);refine goesL_ (some 24) rfl rfl Tryd.func34 (by kernel_rfl) rfl #[.string x5_1,.int .u8 10] rfl q19_ ?_;(with_reducible refine (spec_l1Cut.calls kj3 x5_1 10 t225 t226 t227 _ A8.out).mono ?_);rintro e w' ⟨rfl,⟨nd,rfl⟩⟩;refine ⟨_,rfl,?_⟩))
    (try simp only [Act.put,List.setIfInBounds_toArray,List.set_cons_zero,List.set_cons_succ])
    go_cut [35] (fun v35 wc => ∃ (kq:Nat) (x35_8:Bool),v35 = .bool x35_8 ∧ Aside0 (spec_ReadSyms.j2 kq a0 x4_1 t226 t225 x35_8 = some (r1,r2)) ∧ Aside0 (kq ≤ kj3) ∧ Aside0 (Kd.R k54 54 wc w.heap.size (fun _ => True) u4 x4_1) ∧ Aside0 (Below w.heap.size w wc))
    case first =>
     have H:=HC9.out
     clear HC9
     by_cases c10:(t225.size:Int) < 9
     ·rw [if_pos c10] at H
      have c10b0:=decide_eq_true c10
      have c10b1:decide (t225.size < 9) = true:=decide_eq_true (by omega)
      clear c10
      (first | rw [c10b0] | (simp only [i64_w,i32_w];rw [c10b0]) | rw [c10b9] | skip)
      have H':=Aside0.mk H
      clear H
      go_wp2
      go_meet
      case rel => exact ⟨_,(true),q26_,H',⟨by have:=HK1.out;have:=HJ3.out;first | omega | exact Nat.le_refl _⟩,⟨q31_⟩,⟨q20_⟩⟩
     rw [if_neg c10] at H
     have c10b0:=decide_eq_false c10
     have c10b1:decide (t225.size < 9) = false:=decide_eq_false (by omega)
     clear c10
     (first | rw [c10b0] | (simp only [i64_w,i32_w];rw [c10b0]) | rw [c10b9] | skip)
     have H':=Aside0.mk H
     clear H
     go_wp2
     go_meet
     case rel => exact ⟨_,(!t227),q26_,H',⟨by have:=HK1.out;have:=HJ3.out;first | omega | exact Nat.le_refl _⟩,⟨q31_⟩,⟨q20_⟩⟩
    clear HC9
    try clear c1
    try clear c2
    try clear p2 p2
    try clear c3
    try clear c5
    try clear c5b0
    try clear c5b1
    try clear p6 p6
    try clear c7
    try clear c10
    try clear c10b0
    try clear c10b1
    obtain ⟨kq,x35_8,rfl,HA,HJ8,HO_4,HB⟩:=hcut
    cases kq with
    | zero => exact absurd HA.out (by simp [spec_ReadSyms.j2])
    | succ kj8 =>
     have H:=HA.out
     clear HA
     simp only [spec_ReadSyms.j2] at H
     by_cases c11:x35_8 = true
     ·subst c11
      rewrite [if_pos rfl] at H
      simp only [Option.some.injEq,Prod.mk.injEq] at H
      obtain ⟨rfl,rfl⟩:=H
      go_wp2
      go_ret2
      exact ⟨_,q21_,q18_,q20_⟩
     replace c11:=Bool.eq_false_iff.mpr c11
     subst c11
     rewrite [if_neg (show ¬ (false = true) by decide)] at H
     by_cases c12:0 ≤ 2
     rotate_left
     ·rw [if_neg c12] at H
      exact absurd H (by simp)
     rw [if_pos c12] at H
     have c12b0:=eq_true c12
     have c12b1:=decide_eq_true c12
     clear c12
     by_cases c13:2 ≤ (t225.size:Int)
     rotate_left
     ·rw [if_neg c13] at H
      exact absurd H (by simp)
     rw [if_pos c13] at H
     have c13b0:=eq_true c13
     have c13b1:=decide_eq_true c13
     clear c13
     replace H:=Option.bind_eq_some_iff.mp H
     obtain ⟨⟨t228,t229⟩,A140,H⟩:=H
     try dsimp -simprocs -eta only at H
     have A14:=Aside0.mk A140
     clear A140
     by_cases c15:3 ≤ 7
     rotate_left
     ·rw [if_neg c15] at H
      exact absurd H (by simp)
     rw [if_pos c15] at H
     have c15b0:=eq_true c15
     have c15b1:=decide_eq_true c15
     clear c15
     by_cases c16:7 ≤ (t225.size:Int)
     rotate_left
     ·rw [if_neg c16] at H
      exact absurd H (by simp)
     rw [if_pos c16] at H
     have c16b0:=eq_true c16
     have c16b1:=decide_eq_true c16
     clear c16
     replace H:=Option.bind_eq_some_iff.mp H
     obtain ⟨⟨t230,t231⟩,A170,H⟩:=H
     try dsimp -simprocs -eta only at H
     have A17:=Aside0.mk A170
     clear A170
     by_cases c18:t229 = true
     ·subst c18
      rewrite [if_pos rfl] at H
      by_cases c19:t231 = true
      ·subst c19
       rewrite [if_pos rfl] at H
       by_cases c20:8 ≤ (t225.size:Int)
       rotate_left
       ·rw [if_neg c20] at H
        exact absurd H (by simp)
       rw [if_pos c20] at H
       have c20b0:=eq_true c20
       have c20b1:=decide_eq_true c20
       clear c20
       by_cases c21:x4_1.length < 4398046511104
       rotate_left
       ·rw [if_neg c21] at H
        exact absurd H (by simp)
       rw [if_pos c21] at H
       have LMc21:=Aside0.mk c21
       clear c21
       obtain ⟨y232,hy232⟩:∃ y_:List (S54),y_ = (x4_1 ++ [(⟨t225.extract 8 t225.size,t228,t230⟩:S54)]):=⟨_,rfl⟩
       replace H:(spec_ReadSyms.l0 kj8 a0 y232 t226) = some (r1,r2):=by first | (rw [hy232];exact H) | exact H
       have Ny232:=Aside0.mk hy232
       clear hy232
       have H':=Aside0.mk H
       clear H
       go_wp2_with (first | ((with_reducible refine gate_callee (f:=53) rfl ?_);refine goesL_ (some 39) rfl rfl Tryd.func53 (by kernel_rfl) rfl #[.string (t225.extract 0 2),.int .i64 16] rfl q19_ ?_;(with_reducible refine (spec_l1Base.calls kj8 (t225.extract 0 2) 16 t228 true _ A14.out).mono ?_);rintro e w' ⟨rfl,⟨nd,rfl⟩⟩;refine ⟨_,rfl,?_⟩) | ((with_reducible refine gate_callee (f:=53) rfl ?_);refine goesL_ (some 45) rfl rfl Tryd.func53 (by kernel_rfl) rfl #[.string (t225.extract 3 7),.int .i64 16] rfl q19_ ?_;(with_reducible refine (spec_l1Base.calls kj8 (t225.extract 3 7) 16 t230 true _ A17.out).mono ?_);rintro e w' ⟨rfl,⟨nd,rfl⟩⟩;refine ⟨_,rfl,?_⟩) | ((with_reducible refine gate_builtin (b:=.append) (xs:=#[.tmp 54,.tmp 60]) rfl ?_);(try (refine gate_guard (by rfl) ?_;dsimp only));at_builtin;refine Kd.R_append k54 (w0:=w) w.heap.size rfl (.tmp 54) (.tmp 60) 35 54 (.agg #[(.string ⟨#[]⟩),(.int .i64 0),(.int .i64 0)]) 32 rfl Tryd.underlying35 info54 rfl (by decide) (by omega) u4 x4_1 (⟨t225.extract 8 t225.size,t228,t230⟩:S54) [.string (t225.extract 8 t225.size),.int .i64 t228,.int .i64 t230] (fun _ => True) (fun _ => False) rfl rfl ?aP (fun _ hk => hk.elim) ?aF ?aO ?aB ?aS ?aL ?_;(case aP => exact k54_mkM _ _ _ (⟨t225.extract 8 t225.size,t228,t230⟩:S54));(case aB => exact q20_);(case aF => exact (fun _ _ => trivial));(case aO => exact q31_);(case aS => exact (below_size q20_));(case aL => have:=LMc21.out;omega);intro v233 w22 ho hb hg hat;rw [← Ny232.out] at ho;have n0_:=Aside0.mk (hb);have n1_:=Aside0.mk (ho);clear HB;clear HO_4;have HB:=n0_;have HO234:=n1_;clear n0_ n1_;clear ho hb hg hat))
       go_roundg kj8
       case measure => have:=HK1.out;have:=HJ3.out;have:=HJ8.out;omega
       case rel => exact ⟨(y232),(t226),q26_,H',⟨by have:=HK1.out;have:=HJ3.out;have:=HJ8.out;omega⟩,⟨by (with_reducible repeat (first | apply Kd.R_alloc | apply Kd.R_drewN | apply Kd.R_drew));exact HO234.out⟩,⟨q20_⟩⟩
      replace c19:=Bool.eq_false_iff.mpr c19
      subst c19
      rewrite [if_neg (show ¬ (false = true) by decide)] at H
      simp only [Option.some.injEq,Prod.mk.injEq] at H
      obtain ⟨rfl,rfl⟩:=H
      go_wp2_with (first | ((with_reducible refine gate_callee (f:=53) rfl ?_);refine goesL_ (some 39) rfl rfl Tryd.func53 (by kernel_rfl) rfl #[.string (t225.extract 0 2),.int .i64 16] rfl q19_ ?_;(with_reducible refine (spec_l1Base.calls kj8 (t225.extract 0 2) 16 t228 true _ A14.out).mono ?_);rintro e w' ⟨rfl,⟨nd,rfl⟩⟩;refine ⟨_,rfl,?_⟩) | ((with_reducible refine gate_callee (f:=53) rfl ?_);refine goesL_ (some 45) rfl rfl Tryd.func53 (by kernel_rfl) rfl #[.string (t225.extract 3 7),.int .i64 16] rfl q19_ ?_;(with_reducible refine (spec_l1Base.calls kj8 (t225.extract 3 7) 16 t230 false _ A17.out).mono ?_);rintro e w' ⟨rfl,⟨nd,rfl⟩⟩;refine ⟨_,rfl,?_⟩))
      go_ret2
      exact ⟨_,q21_,q18_,q20_⟩
     replace c18:=Bool.eq_false_iff.mpr c18
     subst c18
     rewrite [if_neg (show ¬ (false = true) by decide)] at H
     simp only [Option.some.injEq,Prod.mk.injEq] at H
     obtain ⟨rfl,rfl⟩:=H
     go_wp2_with (first | ((with_reducible refine gate_callee (f:=53) rfl ?_);refine goesL_ (some 39) rfl rfl Tryd.func53 (by kernel_rfl) rfl #[.string (t225.extract 0 2),.int .i64 16] rfl q19_ ?_;(with_reducible refine (spec_l1Base.calls kj8 (t225.extract 0 2) 16 t228 false _ A14.out).mono ?_);rintro e w' ⟨rfl,⟨nd,rfl⟩⟩;refine ⟨_,rfl,?_⟩) | ((with_reducible refine gate_callee (f:=53) rfl ?_);refine goesL_ (some 45) rfl rfl Tryd.func53 (by kernel_rfl) rfl #[.string (t225.extract 3 7),.int .i64 16] rfl q19_ ?_;(with_reducible refine (spec_l1Base.calls kj8 (t225.extract 3 7) 16 t230 t231 _ A17.out).mono ?_);rintro e w' ⟨rfl,⟨nd,rfl⟩⟩;refine ⟨_,rfl,?_⟩))
     go_ret2
     exact ⟨_,q21_,q18_,q20_⟩
   replace c7:=Bool.eq_false_iff.mpr c7
   subst c7
   rewrite [if_neg (show ¬ (false = true) by decide)] at H
   replace H:=Option.bind_eq_some_iff.mp H
   obtain ⟨t235,A230,H⟩:=H
   have A23:=Aside0.mk A230
   clear A230
   by_cases c24:t235.toList = a0.toList
   ·rw [if_pos c24] at H
    have c24b0:(t235.toList == a0.toList) = true:=beq_iff_eq.mpr c24
    have c24b1:(t235.toList != a0.toList) = false:=bne_eq_false_iff_eq.mpr c24
    clear c24
    simp only [Option.some.injEq,Prod.mk.injEq] at H
    obtain ⟨rfl,rfl⟩:=H
    obtain ⟨Ao25,co25,eo25⟩:=Kd.R_slice HO_4.out
    subst eo25
    go_wp2_with (first | ((with_reducible refine gate_callee (f:=22) rfl ?_);refine goesL_ (some 63) rfl rfl Tryd.func22 (by kernel_rfl) rfl #[.slice Ao25 x4_1.length co25] rfl q19_ ?_;(with_reducible refine (spec_SymText.calls kj3 _ _ x4_1 t235 _ ?side1 ?side2 A23.out).mono ?_);(case side1 => exact q45_);(case side2 => exact (Kd.R_reads' HO_4.out).2.1);rintro e w26 ⟨rfl,hb⟩;refine ⟨_,rfl,?_⟩;have n0_:=Aside0.mk (Kd.R_below q31_ hb);have n1_:=Aside0.mk (below_step q20_ hb);clear HO_4;clear HB;have HO_4:=n0_;have HB:=n1_;clear n0_ n1_;(try clear hb)))
    go_ret2
    exact ⟨_,q21_,q31_,q20_⟩
   rw [if_neg c24] at H
   have c24b0:(t235.toList == a0.toList) = false:=beq_eq_false_iff_ne.mpr c24
   have c24b1:(t235.toList != a0.toList) = true:=bne_iff_ne.mpr c24
   simp only [Option.some.injEq,Prod.mk.injEq] at H
   obtain ⟨rfl,rfl⟩:=H
   obtain ⟨Ao27,co27,eo27⟩:=Kd.R_slice HO_4.out
   subst eo27
   go_wp2_with (first | ((with_reducible refine gate_callee (f:=22) rfl ?_);refine goesL_ (some 63) rfl rfl Tryd.func22 (by kernel_rfl) rfl #[.slice Ao27 x4_1.length co27] rfl q19_ ?_;(with_reducible refine (spec_SymText.calls kj3 _ _ x4_1 t235 _ ?side1 ?side2 A23.out).mono ?_);(case side1 => exact q45_);(case side2 => exact (Kd.R_reads' HO_4.out).2.1);rintro e w28 ⟨rfl,hb⟩;refine ⟨_,rfl,?_⟩;have n0_:=Aside0.mk (Kd.R_below q31_ hb);have n1_:=Aside0.mk (below_step q20_ hb);clear HO_4;clear HB;have HO_4:=n0_;have HB:=n1_;clear n0_ n1_;(try clear hb)))
   go_ret2
   exact ⟨_,q21_,q18_,q20_⟩
end Go.Proofs.YtoiiaklmjpiejaaDoor.QFnSymTexts
