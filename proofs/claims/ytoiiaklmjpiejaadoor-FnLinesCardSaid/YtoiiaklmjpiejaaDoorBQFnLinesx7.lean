/- The machine's side of a law,written by a program of this session for this claim. -/
import Derived.Test.YtoiiaklmjpiejaaDoorBQq
import Derived.Test.YtoiiaklmjpiejaaDoorBQFnLinesx0
import Derived.Test.YtoiiaklmjpiejaaDoorBQFnLinesx6
namespace Go.Proofs.YtoiiaklmjpiejaaDoor.QFnLines
open Go.Proofs.YtoiiaklmjpiejaaDoor.Qq
open Go.RowKit Go.Proofs.YtoiiaklmjpiejaaDoor.LibX Go.Proofs.YtoiiaklmjpiejaaDoor.LibE Go.Proofs.YtoiiaklmjpiejaaDoor.LibCB Go.Proofs.YtoiiaklmjpiejaaDoor.LibT Go.Proofs.YtoiiaklmjpiejaaDoorW.PrintWords Go.Proofs.YtoiiaklmjpiejaaDoorW.PrintLast Go.Proofs.YtoiiaklmjpiejaaDoorW.PrintMore
attribute [local go_sem] max2_int min2_int max_two min_two max_three min_three max_four min_four   -- for this text's walks alone
set_option maxHeartbeats 8000000
set_option maxRecDepth 100000
set_option linter.unusedVariables false
set_option linter.unusedSimpArgs false
mutual
def spec_l7Args.l0:Nat → ByteArray → Int → Option (Bool)
 | 0,_,_ => none
 | k + 1,x0,x3 => if (wrap64 (x3 + 1)) < (x0.size:Int) then (if 0 ≤ x3 then (if x3 < (x0.size:Int) then (if (bt x0 x3) = 32 then (if 0 ≤ (wrap64 (x3 + 1)) then (if (bt x0 (wrap64 (x3 + 1))) = 32 then (spec_l7Args.j1 k x0 x3 true) else (if (bt x0 (wrap64 (x3 + 1))) = 44 then (spec_l7Args.j1 k x0 x3 true) else (if (bt x0 x3) = 44 then (spec_l7Args.j1 k x0 x3 ((bt x0 (wrap64 (x3 + 1))) == 32)) else (spec_l7Args.j1 k x0 x3 false)))) else (none)) else (if (bt x0 x3) = 44 then (if 0 ≤ (wrap64 (x3 + 1)) then (spec_l7Args.j1 k x0 x3 ((bt x0 (wrap64 (x3 + 1))) == 32)) else (none)) else (spec_l7Args.j1 k x0 x3 false))) else (none)) else (none)) else ((spec_l7Plain.f k x0).bind fun t191 => (some t191))
def spec_l7Args.j1:Nat → ByteArray → Int → Bool → Option (Bool)
 | 0,_,_,_ => none
 | k + 1,x0,x3,x41 => if x41 = true then (some false) else (spec_l7Args.l0 k x0 (wrap64 (x3 + 1)))
end
def spec_l7Args.f (k:Nat) (a0:ByteArray):Option (Bool):=spec_l7Args.l0 k a0 0
theorem spec_l7Args.calls (k:Nat) (a0:ByteArray) (r:Bool) (w:World) (h:spec_l7Args.f k a0 = some r) :
  Calls Tryd.prog 33 #[.string a0] w fun e w' => e = .returned (.bool r) ∧ Drawn0 w w':=by
 have H:(spec_l7Args.l0 k a0 0) = some r:=h
 clear h
 have H':=Aside0.mk H
 clear H
 go_enter Tryd.func33,Tryd.ntmps33
 go_wp2
 go_loopg [3] k (fun kq v3 w' => ∃ (x3_1:Int),v3 = .int .i64 x3_1 ∧ Aside0 (spec_l7Args.l0 kq a0 x3_1 = some r) ∧ Aside0 (kq ≤ k) ∧ Drawn0 w w')
 case atStart => exact ⟨(0),q101_,H',⟨Nat.le_refl _⟩,q108_⟩
 clear H'
 obtain ⟨x3_1,rfl,HA,HK1,⟨m1,rfl⟩⟩:=hrel
 cases gk with
 | zero => exact absurd HA.out (by simp [spec_l7Args.l0])
 | succ k1 =>
  have H:=HA.out
  clear HA
  simp only [spec_l7Args.l0] at H
  by_cases c2:(wrap64 (x3_1 + 1)) < (a0.size:Int)
  ·rw [if_pos c2] at H
   have c2b0:=decide_eq_true c2
   clear c2
   have HC3:=Aside0.mk H
   clear H
   go_upto_region 4 with (fail)
   go_cut [41] (fun v41 wc => ∃ (kq:Nat) (x41_2:Bool),v41 = .bool x41_2 ∧ Aside0 (spec_l7Args.j1 kq a0 x3_1 x41_2 = some r) ∧ Aside0 (kq ≤ k1) ∧ Drawn0 w wc)
   case first =>
    have H:=HC3.out
    clear HC3
    by_cases c4:0 ≤ x3_1
    rotate_left
    ·rw [if_neg c4] at H
     exact absurd H (by simp)
    rw [if_pos c4] at H
    have c4b0:=decide_eq_true c4
    clear c4
    (first | rw [c4b0] | (simp only [i64_w,i32_w];rw [c4b0]) | rw [c4b9] | skip)
    by_cases c5:x3_1 < (a0.size:Int)
    rotate_left
    ·rw [if_neg c5] at H
     exact absurd H (by simp)
    rw [if_pos c5] at H
    have c5b0:=decide_eq_true c5
    clear c5
    by_cases c7:(bt a0 x3_1) = 32
    ·rw [if_pos c7] at H
     have c7b0:((bt a0 x3_1) == 32) = true:=beq_iff_eq.mpr c7
     have c7b1:((bt a0 x3_1) != 32) = false:=bne_eq_false_iff_eq.mpr c7
     clear c7
     obtain ⟨ji8,hji8⟩:∃ j_:Int,(wrap64 (x3_1 + 1)) = j_:=⟨_,rfl⟩
     (first | rewrite [hji8] at H | simp only [hji8] at H)
     (try rw [hji8] at c2b0)
     have hji8w:(IntKind.i64.wrap (x3_1 + 1)) = ji8:=(i64_w _).trans hji8
     by_cases c9:0 ≤ (ji8)
     rotate_left
     ·rw [if_neg c9] at H
      exact absurd H (by simp)
     rw [if_pos c9] at H
     have c9b0:=decide_eq_true c9
     clear c9
     by_cases c11:(bt a0 (ji8)) = 32
     ·rw [if_pos c11] at H
      have c11b0:((bt a0 (ji8)) == 32) = true:=beq_iff_eq.mpr c11
      have c11b1:((bt a0 (ji8)) != 32) = false:=bne_eq_false_iff_eq.mpr c11
      clear c11
      have H':=Aside0.mk H
      clear H
      have p6:0 ≤ (x3_1:Int):=of_decide_eq_true q113_
      have q6:x3_1 < (a0.size:Int):=of_decide_eq_true q113_
      have hx6:=bt_at a0 x3_1
      replace p6:=eq_true p6
      replace q6:=eq_true q6
      have p10:0 ≤ ((ji8):Int):=of_decide_eq_true q113_
      have q10:(ji8) < (a0.size:Int):=of_decide_eq_true q113_
      have hx10:=bt_at a0 (ji8)
      replace p10:=eq_true p10
      replace q10:=eq_true q10
      go_wp2
      go_meet
      case rel => exact ⟨_,(true),q101_,q100_,⟨q110_⟩,q108_⟩
     rw [if_neg c11] at H
     have c11b0:((bt a0 (ji8)) == 32) = false:=beq_eq_false_iff_ne.mpr c11
     have c11b1:((bt a0 (ji8)) != 32) = true:=bne_iff_ne.mpr c11
     by_cases c13:(bt a0 (ji8)) = 44
     ·rw [if_pos c13] at H
      have c13b0:((bt a0 (ji8)) == 44) = true:=beq_iff_eq.mpr c13
      have c13b1:((bt a0 (ji8)) != 44) = false:=bne_eq_false_iff_eq.mpr c13
      clear c13
      have H':=Aside0.mk H
      clear H
      have p6:0 ≤ (x3_1:Int):=of_decide_eq_true q113_
      have q6:x3_1 < (a0.size:Int):=of_decide_eq_true q113_
      have hx6:=bt_at a0 x3_1
      replace p6:=eq_true p6
      replace q6:=eq_true q6
      have p10:0 ≤ ((ji8):Int):=of_decide_eq_true q113_
      have q10:(ji8) < (a0.size:Int):=of_decide_eq_true q113_
      have hx10:=bt_at a0 (ji8)
      replace p10:=eq_true p10
      replace q10:=eq_true q10
      have p12:0 ≤ ((ji8):Int):=of_decide_eq_true q113_
      have q12:(ji8) < (a0.size:Int):=of_decide_eq_true q113_
      have hx12:=bt_at a0 (ji8)
      replace p12:=eq_true p12
      replace q12:=eq_true q12
      go_wp2
      go_meet
      case rel => exact ⟨_,(true),q101_,q100_,⟨q110_⟩,q108_⟩
     rw [if_neg c13] at H
     have c13b0:((bt a0 (ji8)) == 44) = false:=beq_eq_false_iff_ne.mpr c13
     have c13b1:((bt a0 (ji8)) != 44) = true:=bne_iff_ne.mpr c13
     by_cases c15:(bt a0 x3_1) = 44
     ·rw [if_pos c15] at H
      have c15b0:((bt a0 x3_1) == 44) = true:=beq_iff_eq.mpr c15
      have c15b1:((bt a0 x3_1) != 44) = false:=bne_eq_false_iff_eq.mpr c15
      clear c15
      have H':=Aside0.mk H
      clear H
      have p6:0 ≤ (x3_1:Int):=of_decide_eq_true q113_
      have q6:x3_1 < (a0.size:Int):=of_decide_eq_true q113_
      have hx6:=bt_at a0 x3_1
      replace p6:=eq_true p6
      replace q6:=eq_true q6
      have p10:0 ≤ ((ji8):Int):=of_decide_eq_true q113_
      have q10:(ji8) < (a0.size:Int):=of_decide_eq_true q113_
      have hx10:=bt_at a0 (ji8)
      replace p10:=eq_true p10
      replace q10:=eq_true q10
      have p12:0 ≤ ((ji8):Int):=of_decide_eq_true q113_
      have q12:(ji8) < (a0.size:Int):=of_decide_eq_true q113_
      have hx12:=bt_at a0 (ji8)
      replace p12:=eq_true p12
      replace q12:=eq_true q12
      have p14:0 ≤ (x3_1:Int):=of_decide_eq_true q113_
      have q14:x3_1 < (a0.size:Int):=of_decide_eq_true q113_
      have hx14:=bt_at a0 x3_1
      replace p14:=eq_true p14
      replace q14:=eq_true q14
      have p16:0 ≤ ((ji8):Int):=of_decide_eq_true q113_
      have q16:(ji8) < (a0.size:Int):=of_decide_eq_true q113_
      have hx16:=bt_at a0 (ji8)
      replace p16:=eq_true p16
      replace q16:=eq_true q16
      go_wp2
      go_meet
      case rel => exact ⟨_,(((bt a0 (ji8)) == 32)),q61_,q100_,⟨q110_⟩,q108_⟩
     rw [if_neg c15] at H
     have c15b0:((bt a0 x3_1) == 44) = false:=beq_eq_false_iff_ne.mpr c15
     have c15b1:((bt a0 x3_1) != 44) = true:=bne_iff_ne.mpr c15
     have H':=Aside0.mk H
     clear H
     have p6:0 ≤ (x3_1:Int):=of_decide_eq_true q113_
     have q6:x3_1 < (a0.size:Int):=of_decide_eq_true q113_
     have hx6:=bt_at a0 x3_1
     replace p6:=eq_true p6
     replace q6:=eq_true q6
     have p10:0 ≤ ((ji8):Int):=of_decide_eq_true q113_
     have q10:(ji8) < (a0.size:Int):=of_decide_eq_true q113_
     have hx10:=bt_at a0 (ji8)
     replace p10:=eq_true p10
     replace q10:=eq_true q10
     have p12:0 ≤ ((ji8):Int):=of_decide_eq_true q113_
     have q12:(ji8) < (a0.size:Int):=of_decide_eq_true q113_
     have hx12:=bt_at a0 (ji8)
     replace p12:=eq_true p12
     replace q12:=eq_true q12
     have p14:0 ≤ (x3_1:Int):=of_decide_eq_true q113_
     have q14:x3_1 < (a0.size:Int):=of_decide_eq_true q113_
     have hx14:=bt_at a0 x3_1
     replace p14:=eq_true p14
     replace q14:=eq_true q14
     go_wp2
     go_meet
     case rel => exact ⟨_,(false),q101_,q100_,⟨q110_⟩,q108_⟩
    rw [if_neg c7] at H
    have c7b0:((bt a0 x3_1) == 32) = false:=beq_eq_false_iff_ne.mpr c7
    have c7b1:((bt a0 x3_1) != 32) = true:=bne_iff_ne.mpr c7
    by_cases c18:(bt a0 x3_1) = 44
    ·rw [if_pos c18] at H
     have c18b0:((bt a0 x3_1) == 44) = true:=beq_iff_eq.mpr c18
     have c18b1:((bt a0 x3_1) != 44) = false:=bne_eq_false_iff_eq.mpr c18
     clear c18
     obtain ⟨ji19,hji19⟩:∃ j_:Int,(wrap64 (x3_1 + 1)) = j_:=⟨_,rfl⟩
     (first | rewrite [hji19] at H | simp only [hji19] at H)
     (try rw [hji19] at c2b0)
     have hji19w:(IntKind.i64.wrap (x3_1 + 1)) = ji19:=(i64_w _).trans hji19
     by_cases c20:0 ≤ (ji19)
     rotate_left
     ·rw [if_neg c20] at H
      exact absurd H (by simp)
     rw [if_pos c20] at H
     have c20b0:=decide_eq_true c20
     clear c20
     have H':=Aside0.mk H
     clear H
     have p6:0 ≤ (x3_1:Int):=of_decide_eq_true q113_
     have q6:x3_1 < (a0.size:Int):=of_decide_eq_true q113_
     have hx6:=bt_at a0 x3_1
     replace p6:=eq_true p6
     replace q6:=eq_true q6
     have p17:0 ≤ (x3_1:Int):=of_decide_eq_true q113_
     have q17:x3_1 < (a0.size:Int):=of_decide_eq_true q113_
     have hx17:=bt_at a0 x3_1
     replace p17:=eq_true p17
     replace q17:=eq_true q17
     have p21:0 ≤ ((ji19):Int):=of_decide_eq_true q113_
     have q21:(ji19) < (a0.size:Int):=of_decide_eq_true q113_
     have hx21:=bt_at a0 (ji19)
     replace p21:=eq_true p21
     replace q21:=eq_true q21
     go_wp2
     go_meet
     case rel => exact ⟨_,(((bt a0 (ji19)) == 32)),(by first | rfl | (simp;done) | (simp only [← hji19] <;> (first | rfl | (simp;done))) | (simp [*];done) | (simp;decide +kernel) | (simp [wrap64];done) | (simp [bne];done)),(by first | with_reducible exact H' | (have H2_:=H';simp only [← hji19] at H2_ ⊢;with_reducible exact H2_) | exact H'),⟨q110_⟩,q108_⟩
    rw [if_neg c18] at H
    have c18b0:((bt a0 x3_1) == 44) = false:=beq_eq_false_iff_ne.mpr c18
    have c18b1:((bt a0 x3_1) != 44) = true:=bne_iff_ne.mpr c18
    have H':=Aside0.mk H
    clear H
    have p6:0 ≤ (x3_1:Int):=of_decide_eq_true q113_
    have q6:x3_1 < (a0.size:Int):=of_decide_eq_true q113_
    have hx6:=bt_at a0 x3_1
    replace p6:=eq_true p6
    replace q6:=eq_true q6
    have p17:0 ≤ (x3_1:Int):=of_decide_eq_true q113_
    have q17:x3_1 < (a0.size:Int):=of_decide_eq_true q113_
    have hx17:=bt_at a0 x3_1
    replace p17:=eq_true p17
    replace q17:=eq_true q17
    go_wp2
    go_meet
    case rel => exact ⟨_,(false),q101_,H',⟨q110_⟩,q108_⟩
   clear HC3
   try clear c1
   try clear p1
   try clear q1
   try clear hx1
   try clear c2
   try clear c2b0
   try clear p2
   try clear q2
   try clear hx2
   try clear c3
   try clear c4
   try clear c4b0
   try clear c5
   try clear c5b0
   try clear p6 p6
   try clear q6 q6
   try clear hx6
   try clear c7
   try clear c7b0
   try clear c7b1
   try clear c9
   try clear c9b0
   try clear p10 p10
   try clear q10 q10
   try clear hx10
   try clear c11
   try clear c11b0
   try clear c11b1
   try clear p12 p12
   try clear q12 q12
   try clear hx12
   try clear c13
   try clear c13b0
   try clear c13b1
   try clear p14 p14
   try clear q14 q14
   try clear hx14
   try clear c15
   try clear c15b0
   try clear c15b1
   try clear p16 p16
   try clear q16 q16
   try clear hx16
   try clear p17 p17
   try clear q17 q17
   try clear hx17
   try clear c18
   try clear c18b0
   try clear c18b1
   try clear c20
   try clear c20b0
   try clear p21 p21
   try clear q21 q21
   try clear hx21
   obtain ⟨kq,x41_2,rfl,HA,HJ2,⟨mc2,rfl⟩⟩:=hcut
   cases kq with
   | zero => exact absurd HA.out (by simp [spec_l7Args.j1])
   | succ kj2 =>
    have H:=HA.out
    clear HA
    simp only [spec_l7Args.j1] at H
    by_cases c22:x41_2 = true
    ·subst c22
     rewrite [if_pos rfl] at H
     obtain rfl:=Option.some.inj H
     go_wp2
     go_ret
     exact ⟨q101_,q108_⟩
    replace c22:=Bool.eq_false_iff.mpr c22
    subst c22
    rewrite [if_neg (show ¬ (false = true) by decide)] at H
    have H':=Aside0.mk H
    clear H
    go_wp2
    go_roundg kj2
    case measure => have:=HK1.out;have:=HJ2.out;omega
    case rel => exact ⟨(wrap64 (x3_1 + 1)),q101_,H',⟨q114_⟩,q108_⟩
  rw [if_neg c2] at H
  have c2b0:=decide_eq_false c2
  clear c2
  replace H:=Option.bind_eq_some_iff.mp H
  obtain ⟨t191,A230,H⟩:=H
  have A23:=Aside0.mk A230
  clear A230
  obtain rfl:=Option.some.inj H
  go_wp2_with (first | ((with_reducible refine gate_callee (f:=56) rfl ?_);refine goesL_ (some 43) rfl rfl Tryd.func56 (by kernel_rfl) rfl #[.string a0] rfl q82_ ?_;(with_reducible refine (spec_l7Plain.calls k1 a0 t191 _ A23.out).mono ?_);rintro e w' ⟨rfl,⟨nd,rfl⟩⟩;refine ⟨_,rfl,?_⟩))
  go_ret
  exact ⟨q101_,q108_⟩
mutual
def spec_l7Text.j0:Nat → ByteArray → ByteArray → ByteArray → ByteArray → Option (ByteArray)
 | 0,_,_,_,_ => none
 | k + 1,x3,x193000,x193001,x193002 => if x193001.toList = ([]:List UInt8) then (spec_l7Text.j1 k x3 x193000 x193001 x193002) else (if x3.toList = ([]:List UInt8) then (if x3.size + x193001.size ≤ 9223372036854775807 then (spec_l7Text.j1 k (x3 ++ x193001) x193000 x193001 x193002) else (none)) else (if x3.size + 1 ≤ 9223372036854775807 then (if (x3 ++ (⟨#[32]⟩:ByteArray)).size + x193001.size ≤ 9223372036854775807 then (spec_l7Text.j1 k ((x3 ++ (⟨#[32]⟩:ByteArray)) ++ x193001) x193000 x193001 x193002) else (none)) else (none)))
def spec_l7Text.j1:Nat → ByteArray → ByteArray → ByteArray → ByteArray → Option (ByteArray)
 | 0,_,_,_,_ => none
 | k + 1,x3,x193000,x193001,x193002 => if x193002.toList = ([]:List UInt8) then (some x3) else (if x3.size + 1 ≤ 9223372036854775807 then (if (x3 ++ (⟨#[32]⟩:ByteArray)).size + x193002.size ≤ 9223372036854775807 then (some ((x3 ++ (⟨#[32]⟩:ByteArray)) ++ x193002)) else (none)) else (none))
end
def spec_l7Text.f (k:Nat) (a0_0:ByteArray) (a0_1:ByteArray) (a0_2:ByteArray):Option (ByteArray):=if a0_0.toList = ([]:List UInt8) then (spec_l7Text.j0 k (⟨#[]⟩:ByteArray) a0_0 a0_1 a0_2) else (if a0_0.size + 1 ≤ 9223372036854775807 then (spec_l7Text.j0 k (a0_0 ++ (⟨#[58]⟩:ByteArray)) a0_0 a0_1 a0_2) else (none))
theorem spec_l7Text.calls (k:Nat) (a0_0:ByteArray) (a0_1:ByteArray) (a0_2:ByteArray) (r:ByteArray) (w:World) (h:spec_l7Text.f k a0_0 a0_1 a0_2 = some r) :
  Calls Tryd.prog 37 #[.agg #[.string a0_0,.string a0_1,.string a0_2]] w fun e w' => e = .returned (.string r) ∧ Below w.heap.size w w':=by
 have hu29:=Tryd.underlying29
 have HB:=Aside0.mk (Below.refl w.heap.size w)
 have H:=h;unfold spec_l7Text.f at H
 clear h
 have HC2:=Aside0.mk H
 clear H
 go_enter Tryd.func37,Tryd.ntmps37
 go_upto_if 6 with (first | ((with_reducible refine gate_dst (N:=1) rfl ?_);refine box_event ?hg (N:=1) ?hd (cs:=#[.string a0_0,.string a0_1,.string a0_2]) (t:=29) ?hr ?_;(case hd => rfl);(case hg => rfl);(case hr => exact q130_);intro gb192 hg w3 hbox hb;have n0_:=Aside0.mk (below_step q83_ hb);have n1_:=Aside0.mk (hbox);have n2_:=Aside0.mk ((q64_:w.heap.size ≤ gb192));have n3_:=Aside0.mk ((q64_:w.heap.size ≤ gb192));clear HB;have HB:=n0_;have BK192:=n1_;have GW192:=n2_;have GE192:=n3_;clear n0_ n1_ n2_ n3_;clear hb hbox hg;have hcz4_0:w3.cell? ⟨gb192,0,none⟩ = some (.string a0_0):=(blk_cell BK192.out 0).trans rfl;have hcz4_1:w3.cell? ⟨gb192,1,none⟩ = some (.string a0_1):=(blk_cell BK192.out 1).trans rfl;have hcz4_2:w3.cell? ⟨gb192,2,none⟩ = some (.string a0_2):=(blk_cell BK192.out 2).trans rfl;have hfz4_0:=blk_frozen BK192.out 0;have hfz4_1:=blk_frozen BK192.out 1;have hfz4_2:=blk_frozen BK192.out 2))
 (try simp only [Act.put,List.setIfInBounds_toArray,List.set_cons_zero,List.set_cons_succ])
 go_cut [3] (fun v3 wc => ∃ (kq:Nat) (x3_1:ByteArray),v3 = .string x3_1 ∧ Aside0 (spec_l7Text.j0 kq x3_1 a0_0 a0_1 a0_2 = some r) ∧ Aside0 (kq ≤ k) ∧ Aside0 (wc.heap[gb192]? = some (.cells #[.string a0_0,.string a0_1,.string a0_2] 29 (0,0))) ∧ Aside0 (Below w.heap.size w wc))
 case first =>
  have H:=HC2.out
  clear HC2
  by_cases c5:a0_0.toList = ([]:List UInt8)
  ·rw [if_pos c5] at H
   have c5b0:(a0_0.toList == ([]:List UInt8)) = true:=beq_iff_eq.mpr c5
   have c5b1:(a0_0.toList != ([]:List UInt8)) = false:=bne_eq_false_iff_eq.mpr c5
   have c5b9:a0_0.toList.isEmpty = true:=(isEmpty_beq _).trans c5b0
   clear c5
   (first | rw [c5b0] | (simp only [i64_w,i32_w];rw [c5b0]) | rw [c5b9] | skip)
   have H':=Aside0.mk H
   clear H
   go_wp2
   go_meet
   case rel => exact ⟨_,((⟨#[]⟩:ByteArray)),q101_,H',⟨q115_⟩,⟨q90_⟩,⟨q69_⟩⟩
  rw [if_neg c5] at H
  have c5b0:(a0_0.toList == ([]:List UInt8)) = false:=beq_eq_false_iff_ne.mpr c5
  have c5b1:(a0_0.toList != ([]:List UInt8)) = true:=bne_iff_ne.mpr c5
  have c5b9:a0_0.toList.isEmpty = false:=(isEmpty_beq _).trans c5b0
  (first | rw [c5b0] | (simp only [i64_w,i32_w];rw [c5b0]) | rw [c5b9] | skip)
  by_cases c6:a0_0.size + 1 ≤ 9223372036854775807
  rotate_left
  ·rw [if_neg c6] at H
   exact absurd H (by simp)
  rw [if_pos c6] at H
  have c6b0:=eq_true c6
  have c6b1:=decide_eq_true c6
  try have c6b2:(9223372036854775807 < a0_0.size + 1) = False:=eq_false (Nat.not_lt.2 c6)
  have H':=Aside0.mk H
  clear H
  have hcz7_0:w3.cell? ⟨gb192,0,none⟩ = some (.string a0_0):=bz_ BK192 0
  have hcz7_1:w3.cell? ⟨gb192,1,none⟩ = some (.string a0_1):=bz_ BK192 1
  have hcz7_2:w3.cell? ⟨gb192,2,none⟩ = some (.string a0_2):=bz_ BK192 2
  have hfz7_0:=blk_frozen BK192.out 0
  have hfz7_1:=blk_frozen BK192.out 1
  have hfz7_2:=blk_frozen BK192.out 2
  go_wp2
  go_meet
  case rel => exact ⟨_,(a0_0 ++ (⟨#[58]⟩:ByteArray)),q101_,H',⟨q115_⟩,⟨q90_⟩,⟨q69_⟩⟩
 clear HC2
 try clear p2
 try clear c3
 try clear c5
 try clear c5b0
 try clear c5b1
 try clear c6
 try clear c6b0
 try clear c6b1
 try clear c6b2
 try clear p6
 try clear hcz4_0 hcz4_1 hcz4_2
 try clear hcz7_0 hcz7_1 hcz7_2
 try clear hfz4_0 hfz4_1 hfz4_2
 try clear hfz7_0 hfz7_1 hfz7_2
 obtain ⟨kq,x3_1,rfl,HA,HJ1,BK192,HB⟩:=hcut
 cases kq with
 | zero => exact absurd HA.out (by simp [spec_l7Text.j0])
 | succ kj1 =>
  have H:=HA.out
  clear HA
  simp only [spec_l7Text.j0] at H
  have HC8:=Aside0.mk H
  clear H
  have hcz9_0:wc.cell? ⟨gb192,0,none⟩ = some (.string a0_0):=bz_ BK192 0
  have hcz9_1:wc.cell? ⟨gb192,1,none⟩ = some (.string a0_1):=bz_ BK192 1
  have hcz9_2:wc.cell? ⟨gb192,2,none⟩ = some (.string a0_2):=bz_ BK192 2
  have hfz9_0:=blk_frozen BK192.out 0
  have hfz9_1:=blk_frozen BK192.out 1
  have hfz9_2:=blk_frozen BK192.out 2
  go_upto_if 12 with (fail)
  go_cut [3] (fun v3 wc => ∃ (kq:Nat) (x3_7:ByteArray),v3 = .string x3_7 ∧ Aside0 (spec_l7Text.j1 kq x3_7 a0_0 a0_1 a0_2 = some r) ∧ Aside0 (kq ≤ kj1) ∧ Aside0 (wc.heap[gb192]? = some (.cells #[.string a0_0,.string a0_1,.string a0_2] 29 (0,0))) ∧ Aside0 (Below w.heap.size w wc))
  case first =>
   have H:=HC8.out
   clear HC8
   by_cases c10:a0_1.toList = ([]:List UInt8)
   ·rw [if_pos c10] at H
    have c10b0:(a0_1.toList == ([]:List UInt8)) = true:=beq_iff_eq.mpr c10
    have c10b1:(a0_1.toList != ([]:List UInt8)) = false:=bne_eq_false_iff_eq.mpr c10
    have c10b9:a0_1.toList.isEmpty = true:=(isEmpty_beq _).trans c10b0
    clear c10
    (first | rw [c10b0] | (simp only [i64_w,i32_w];rw [c10b0]) | rw [c10b9] | skip)
    have H':=Aside0.mk H
    clear H
    go_wp2
    go_meet
    case rel => exact ⟨_,(x3_1),q101_,H',⟨q111_⟩,⟨q90_⟩,⟨q69_⟩⟩
   rw [if_neg c10] at H
   have c10b0:(a0_1.toList == ([]:List UInt8)) = false:=beq_eq_false_iff_ne.mpr c10
   have c10b1:(a0_1.toList != ([]:List UInt8)) = true:=bne_iff_ne.mpr c10
   have c10b9:a0_1.toList.isEmpty = false:=(isEmpty_beq _).trans c10b0
   (first | rw [c10b0] | (simp only [i64_w,i32_w];rw [c10b0]) | rw [c10b9] | skip)
   by_cases c11:x3_1.toList = ([]:List UInt8)
   ·rw [if_pos c11] at H
    have c11b0:(x3_1.toList == ([]:List UInt8)) = true:=beq_iff_eq.mpr c11
    have c11b1:(x3_1.toList != ([]:List UInt8)) = false:=bne_eq_false_iff_eq.mpr c11
    have c11b9:x3_1.toList.isEmpty = true:=(isEmpty_beq _).trans c11b0
    clear c11
    by_cases c12:x3_1.size + a0_1.size ≤ 9223372036854775807
    rotate_left
    ·rw [if_neg c12] at H
     exact absurd H (by simp)
    rw [if_pos c12] at H
    have c12b0:=eq_true c12
    have c12b1:=decide_eq_true c12
    try have c12b2:(9223372036854775807 < x3_1.size + a0_1.size) = False:=eq_false (Nat.not_lt.2 c12)
    have H':=Aside0.mk H
    clear H
    have hcz13_0:wc.cell? ⟨gb192,0,none⟩ = some (.string a0_0):=bz_ BK192 0
    have hcz13_1:wc.cell? ⟨gb192,1,none⟩ = some (.string a0_1):=bz_ BK192 1
    have hcz13_2:wc.cell? ⟨gb192,2,none⟩ = some (.string a0_2):=bz_ BK192 2
    have hfz13_0:=blk_frozen BK192.out 0
    have hfz13_1:=blk_frozen BK192.out 1
    have hfz13_2:=blk_frozen BK192.out 2
    go_wp2
    go_meet
    case rel => exact ⟨_,(x3_1 ++ a0_1),q101_,H',⟨q111_⟩,⟨q90_⟩,⟨q69_⟩⟩
   rw [if_neg c11] at H
   have c11b0:(x3_1.toList == ([]:List UInt8)) = false:=beq_eq_false_iff_ne.mpr c11
   have c11b1:(x3_1.toList != ([]:List UInt8)) = true:=bne_iff_ne.mpr c11
   have c11b9:x3_1.toList.isEmpty = false:=(isEmpty_beq _).trans c11b0
   by_cases c14:x3_1.size + 1 ≤ 9223372036854775807
   rotate_left
   ·rw [if_neg c14] at H
    exact absurd H (by simp)
   rw [if_pos c14] at H
   have c14b0:=eq_true c14
   have c14b1:=decide_eq_true c14
   try have c14b2:(9223372036854775807 < x3_1.size + 1) = False:=eq_false (Nat.not_lt.2 c14)
   by_cases c15:(x3_1 ++ (⟨#[32]⟩:ByteArray)).size + a0_1.size ≤ 9223372036854775807
   rotate_left
   ·rw [if_neg c15] at H
    exact absurd H (by simp)
   rw [if_pos c15] at H
   have c15b0:=eq_true c15
   (try (have c15b0e:=c15b0;simp only [ByteArray.size_append,ByteArray.size_extract,Nat.min_self,Nat.sub_zero,show (⟨#[32]⟩:ByteArray).size = 1 from rfl] at c15b0e))
   have c15b1:=decide_eq_true c15
   (try (have c15b1e:=c15b1;simp only [ByteArray.size_append,ByteArray.size_extract,Nat.min_self,Nat.sub_zero,show (⟨#[32]⟩:ByteArray).size = 1 from rfl] at c15b1e))
   try have c15b2:(9223372036854775807 < (x3_1 ++ (⟨#[32]⟩:ByteArray)).size + a0_1.size) = False:=eq_false (Nat.not_lt.2 c15)
   (try (have c15b2e:=c15b2;simp only [ByteArray.size_append,ByteArray.size_extract,Nat.min_self,Nat.sub_zero,show (⟨#[32]⟩:ByteArray).size = 1 from rfl] at c15b2e))
   have H':=Aside0.mk H
   clear H
   have hcz16_0:wc.cell? ⟨gb192,0,none⟩ = some (.string a0_0):=bz_ BK192 0
   have hcz16_1:wc.cell? ⟨gb192,1,none⟩ = some (.string a0_1):=bz_ BK192 1
   have hcz16_2:wc.cell? ⟨gb192,2,none⟩ = some (.string a0_2):=bz_ BK192 2
   have hfz16_0:=blk_frozen BK192.out 0
   have hfz16_1:=blk_frozen BK192.out 1
   have hfz16_2:=blk_frozen BK192.out 2
   go_wp2
   go_meet
   case rel => exact ⟨_,((x3_1 ++ (⟨#[32]⟩:ByteArray)) ++ a0_1),q101_,H',⟨q111_⟩,⟨q90_⟩,⟨q69_⟩⟩
  clear HC8
  try clear c1
  try clear p2 p2
  try clear c3
  try clear c5
  try clear c5b0
  try clear c5b1
  try clear c6
  try clear c6b0
  try clear c6b1
  try clear c6b2
  try clear p6 p6
  try clear c10
  try clear c10b0
  try clear c10b1
  try clear c11
  try clear c11b0
  try clear c11b1
  try clear c12
  try clear c12b0
  try clear c12b1
  try clear c12b2
  try clear c14
  try clear c14b0
  try clear c14b1
  try clear c14b2
  try clear c15
  try clear c15b0
  try clear c15b1
  try clear c15b2
  try clear hcz13_0 hcz13_1 hcz13_2
  try clear hcz16_0 hcz16_1 hcz16_2
  try clear hcz4_0 hcz4_1 hcz4_2
  try clear hcz7_0 hcz7_1 hcz7_2
  try clear hcz9_0 hcz9_1 hcz9_2
  try clear hfz13_0 hfz13_1 hfz13_2
  try clear hfz16_0 hfz16_1 hfz16_2
  try clear hfz4_0 hfz4_1 hfz4_2
  try clear hfz7_0 hfz7_1 hfz7_2
  try clear hfz9_0 hfz9_1 hfz9_2
  obtain ⟨kq,x3_7,rfl,HA,HJ7,BK192,HB⟩:=hcut
  cases kq with
  | zero => exact absurd HA.out (by simp [spec_l7Text.j1])
  | succ kj7 =>
   have H:=HA.out
   clear HA
   simp only [spec_l7Text.j1] at H
   by_cases c17:a0_2.toList = ([]:List UInt8)
   ·rw [if_pos c17] at H
    have c17b0:(a0_2.toList == ([]:List UInt8)) = true:=beq_iff_eq.mpr c17
    have c17b1:(a0_2.toList != ([]:List UInt8)) = false:=bne_eq_false_iff_eq.mpr c17
    have c17b9:a0_2.toList.isEmpty = true:=(isEmpty_beq _).trans c17b0
    clear c17
    obtain rfl:=Option.some.inj H
    have hcz18_0:wc.cell? ⟨gb192,0,none⟩ = some (.string a0_0):=bz_ BK192 0
    have hcz18_1:wc.cell? ⟨gb192,1,none⟩ = some (.string a0_1):=bz_ BK192 1
    have hcz18_2:wc.cell? ⟨gb192,2,none⟩ = some (.string a0_2):=bz_ BK192 2
    have hfz18_0:=blk_frozen BK192.out 0
    have hfz18_1:=blk_frozen BK192.out 1
    have hfz18_2:=blk_frozen BK192.out 2
    go_wp2
    go_ret
    exact ⟨q84_,q69_⟩
   rw [if_neg c17] at H
   have c17b0:(a0_2.toList == ([]:List UInt8)) = false:=beq_eq_false_iff_ne.mpr c17
   have c17b1:(a0_2.toList != ([]:List UInt8)) = true:=bne_iff_ne.mpr c17
   have c17b9:a0_2.toList.isEmpty = false:=(isEmpty_beq _).trans c17b0
   by_cases c19:x3_7.size + 1 ≤ 9223372036854775807
   rotate_left
   ·rw [if_neg c19] at H
    exact absurd H (by simp)
   rw [if_pos c19] at H
   have c19b0:=eq_true c19
   have c19b1:=decide_eq_true c19
   try have c19b2:(9223372036854775807 < x3_7.size + 1) = False:=eq_false (Nat.not_lt.2 c19)
   by_cases c20:(x3_7 ++ (⟨#[32]⟩:ByteArray)).size + a0_2.size ≤ 9223372036854775807
   rotate_left
   ·rw [if_neg c20] at H
    exact absurd H (by simp)
   rw [if_pos c20] at H
   have c20b0:=eq_true c20
   (try (have c20b0e:=c20b0;simp only [ByteArray.size_append,ByteArray.size_extract,Nat.min_self,Nat.sub_zero,show (⟨#[32]⟩:ByteArray).size = 1 from rfl] at c20b0e))
   have c20b1:=decide_eq_true c20
   (try (have c20b1e:=c20b1;simp only [ByteArray.size_append,ByteArray.size_extract,Nat.min_self,Nat.sub_zero,show (⟨#[32]⟩:ByteArray).size = 1 from rfl] at c20b1e))
   try have c20b2:(9223372036854775807 < (x3_7 ++ (⟨#[32]⟩:ByteArray)).size + a0_2.size) = False:=eq_false (Nat.not_lt.2 c20)
   (try (have c20b2e:=c20b2;simp only [ByteArray.size_append,ByteArray.size_extract,Nat.min_self,Nat.sub_zero,show (⟨#[32]⟩:ByteArray).size = 1 from rfl] at c20b2e))
   obtain rfl:=Option.some.inj H
   have hcz21_0:wc.cell? ⟨gb192,0,none⟩ = some (.string a0_0):=bz_ BK192 0
   have hcz21_1:wc.cell? ⟨gb192,1,none⟩ = some (.string a0_1):=bz_ BK192 1
   have hcz21_2:wc.cell? ⟨gb192,2,none⟩ = some (.string a0_2):=bz_ BK192 2
   have hfz21_0:=blk_frozen BK192.out 0
   have hfz21_1:=blk_frozen BK192.out 1
   have hfz21_2:=blk_frozen BK192.out 2
   go_wp2
   go_ret
   exact ⟨q84_,q69_⟩
def spec_l1Letter.f (a0:Int):Option (Bool):=if a0 ≥ 97 then (if a0 ≤ 122 then (some true) else (if a0 = 95 then (some true) else (some (a0 == 46)))) else (if a0 = 95 then (some true) else (some (a0 == 46)))
theorem spec_l1Letter.calls (a0:Int) (r:Bool) (w:World) (h:spec_l1Letter.f a0 = some r) :
  Calls Tryd.prog 61 #[.int .u8 a0] w fun e w' => e = .returned (.bool r) ∧ Drawn0 w w':=by
 have H:=h;unfold spec_l1Letter.f at H
 clear h
 by_cases c2:a0 ≥ 97
 ·rw [if_pos c2] at H
  have c2b0:decide (97 ≤ a0) = true:=decide_eq_true c2
  clear c2
  by_cases c3:a0 ≤ 122
  ·rw [if_pos c3] at H
   have c3b0:=decide_eq_true c3
   clear c3
   obtain rfl:=Option.some.inj H
   go_enter Tryd.func61,Tryd.ntmps61
   go_wp2
   go_ret
   exact ⟨q101_,q108_⟩
  rw [if_neg c3] at H
  have c3b0:=decide_eq_false c3
  clear c3
  by_cases c4:a0 = 95
  ·rw [if_pos c4] at H
   have c4b0:(a0 == 95) = true:=beq_iff_eq.mpr c4
   have c4b1:(a0 != 95) = false:=bne_eq_false_iff_eq.mpr c4
   clear c4
   obtain rfl:=Option.some.inj H
   go_enter Tryd.func61,Tryd.ntmps61
   go_wp2
   go_ret
   exact ⟨q101_,q108_⟩
  rw [if_neg c4] at H
  have c4b0:(a0 == 95) = false:=beq_eq_false_iff_ne.mpr c4
  have c4b1:(a0 != 95) = true:=bne_iff_ne.mpr c4
  obtain rfl:=Option.some.inj H
  go_enter Tryd.func61,Tryd.ntmps61
  go_wp2
  go_ret
  exact ⟨q101_,q108_⟩
 rw [if_neg c2] at H
 have c2b0:decide (97 ≤ a0) = false:=decide_eq_false c2
 clear c2
 by_cases c5:a0 = 95
 ·rw [if_pos c5] at H
  have c5b0:(a0 == 95) = true:=beq_iff_eq.mpr c5
  have c5b1:(a0 != 95) = false:=bne_eq_false_iff_eq.mpr c5
  clear c5
  obtain rfl:=Option.some.inj H
  go_enter Tryd.func61,Tryd.ntmps61
  go_wp2
  go_ret
  exact ⟨q101_,q108_⟩
 rw [if_neg c5] at H
 have c5b0:(a0 == 95) = false:=beq_eq_false_iff_ne.mpr c5
 have c5b1:(a0 != 95) = true:=bne_iff_ne.mpr c5
 obtain rfl:=Option.some.inj H
 go_enter Tryd.func61,Tryd.ntmps61
 go_wp2
 go_ret
 exact ⟨q101_,q108_⟩
end Go.Proofs.YtoiiaklmjpiejaaDoor.QFnLines
