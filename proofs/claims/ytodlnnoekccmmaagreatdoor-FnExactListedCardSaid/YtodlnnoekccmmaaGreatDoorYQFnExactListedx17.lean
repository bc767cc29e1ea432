/- The machine's side of a law,written by a program of this session for this claim. -/
import Derived.Test.YtodlnnoekccmmaaGreatDoorYQq
import Derived.Test.YtodlnnoekccmmaaGreatDoorYQFnExactListedx0
import Derived.Test.YtodlnnoekccmmaaGreatDoorYQFnExactListedx9
import Derived.Test.YtodlnnoekccmmaaGreatDoorYQFnExactListedx12
import Derived.Test.YtodlnnoekccmmaaGreatDoorYQFnExactListedx14
import Derived.Test.YtodlnnoekccmmaaGreatDoorYQFnExactListedx15
import Derived.Test.YtodlnnoekccmmaaGreatDoorYQFnExactListedx16
namespace Go.Proofs.YtodlnnoekccmmaaGreatDoor.QFnExactListed
open Go.Proofs.YtodlnnoekccmmaaGreatDoor.Qq
open Go.RowKit Go.Proofs.YtodlnnoekccmmaaGreatDoor.LibX Go.Proofs.YtodlnnoekccmmaaGreatDoor.LibE Go.Proofs.YtodlnnoekccmmaaGreatDoorW.PrintWords Go.Proofs.YtodlnnoekccmmaaGreatDoorW.PrintLast Go.Proofs.YtodlnnoekccmmaaGreatDoorW.PrintMore
attribute [local go_sem] max2_int min2_int max_two min_two max_three min_three max_four min_four   -- for this text's walks alone
set_option maxHeartbeats 8000000
set_option maxRecDepth 100000
set_option linter.unusedVariables false
set_option linter.unusedSimpArgs false
def strings_HasPrefix.f (a0:ByteArray) (a1:ByteArray):Option (Bool):=(stringslite_HasPrefix.f a0 a1).bind fun t501 => (some t501)
theorem strings_HasPrefix.calls (a0:ByteArray) (a1:ByteArray) (r:Bool) (w:World) (h:strings_HasPrefix.f a0 a1 = some r) :
  Calls Tryz.prog 117 #[.string a0,.string a1] w fun e w' => e = .returned (.bool r) ∧ Drawn0 w w':=by
 have H:((stringslite_HasPrefix.f a0 a1).bind fun t501 => (some t501)) = some r:=h
 clear h
 replace H:=Option.bind_eq_some_iff.mp H
 obtain ⟨t501,A30,H⟩:=H
 have A3:=Aside0.mk A30
 clear A30
 obtain rfl:=Option.some.inj H
 go_enter Tryz.func117,Tryz.ntmps117
 go_wp2_with (first | ((with_reducible refine gate_callee (f:=145) rfl ?_);refine goesL_ (some 7) rfl rfl Tryz.func145 (by kernel_rfl) rfl #[.string a0,.string a1] rfl q46_ ?_;(with_reducible refine (stringslite_HasPrefix.calls a0 a1 t501 _ A3.out).mono ?_);rintro e w' ⟨rfl,⟨nd,rfl⟩⟩;refine ⟨_,rfl,?_⟩))
 go_ret
 exact ⟨q69_,q85_⟩
mutual
def impl_listedAt.j1:Nat → ByteArray → Int → Int → Option (ByteArray × Int)
 | 0,_,_,_ => none
 | k + 1,x0,x1,x7 => if x7 ≥ 4 then ((impl_decimal.f x7).bind fun t502 => (if 3 + t502.size ≤ 9223372036854775807 then (some ((⟨#[100,115,32]⟩:ByteArray) ++ t502,x7)) else (none))) else (if 0 ≤ x1 then (if x1 < (x0.size:Int) then ((impl_HexOf.f k (wrap64 (bt x0 x1)) 2).bind fun t503 => (if 3 + t503.size ≤ 9223372036854775807 then ((impl_inBank.f k x0 x1).bind fun bt504 => (if bt504.2.2.2 = 0 then (some ((⟨#[100,98,32]⟩:ByteArray) ++ t503,1)) else ((impl_TemplateOf.f k bt504.1 bt504.2.1).bind fun t509 => ((strings_HasPrefix.f t509 (⟨#[106,114,32]⟩:ByteArray)).bind fun t510 => (if t510 = true then ((impl_jumps.f k bt504.1 bt504.2.1 bt504.2.2.1 x1).bind fun bt512 => ((impl_isWord.f bt512.1).bind fun t514 => (if t514 = true then ((impl_HexOf.f k bt512.1 4).bind fun t515 => ((strings_Replace.f t509 (⟨#[101,56]⟩:ByteArray) t515 1).bind fun t516 => (some (t516,bt504.2.2.2)))) else (some ((⟨#[100,98,32]⟩:ByteArray) ++ t503,1))))) else ((impl_InsText.f k bt504.1 bt504.2.1 bt504.2.2.1).bind fun t511 => (some (t511,bt504.2.2.2)))))))) else (none))) else (none)) else (none))
def impl_listedAt.l0:Nat → ByteArray → Int → Int → Int → Option (ByteArray × Int)
 | 0,_,_,_,_ => none
 | k + 1,x0,x1,x6,x7 => if (wrap64 (x1 + x7)) < x6 then (if 0 ≤ (wrap64 (x1 + x7)) then (if (wrap64 (x1 + x7)) < (x0.size:Int) then (if (bt x0 (wrap64 (x1 + x7))) = 0 then (impl_listedAt.l0 k x0 x1 x6 (wrap64 (x7 + 1))) else (impl_listedAt.j1 k x0 x1 x7)) else (none)) else (none)) else (impl_listedAt.j1 k x0 x1 x7)
end
def impl_listedAt.f (k:Nat) (a0:ByteArray) (a1:Int):Option (ByteArray × Int):=impl_listedAt.l0 k a0 a1 (wrap64 ((wrap64 ((wrap64 (Int.tdiv a1 256)) + 1)) * 256)) 0
theorem impl_listedAt.mono_l:∀ k,(∀ y0 y1 y2,LeO (impl_listedAt.j1 k y0 y1 y2) (impl_listedAt.j1 (k + 1) y0 y1 y2)) ∧ (∀ y0 y1 y2 y3,LeO (impl_listedAt.l0 k y0 y1 y2 y3) (impl_listedAt.l0 (k + 1) y0 y1 y2 y3))
 | 0 => ⟨fun _ _ _ r h => by simp [impl_listedAt.j1] at h,fun _ _ _ _ r h => by simp [impl_listedAt.l0] at h⟩
 | k + 1 => by
  obtain ⟨ih0,ih1⟩:=impl_listedAt.mono_l k
  refine ⟨?_,?_⟩
  ·intro y0 y1 y2
   unfold impl_listedAt.j1
   repeat' first
   | (with_reducible first | exact ih0 _ _ _ | exact ih1 _ _ _ _ | exact impl_HexOf.mono _ _ _ | exact impl_InsText.mono _ _ _ _ | exact impl_TemplateOf.mono _ _ _ | exact impl_inBank.mono _ _ _ | exact impl_jumps.mono _ _ _ _ _ | exact LeO.refl _ | exact LeO.none _ | refine LeO.ite ?_ ?_ | refine LeO.bind ?_ (fun _ => ?_))
   | exact ih0 _ _ _
   | exact ih1 _ _ _ _
   | exact impl_HexOf.mono _ _ _
   | exact impl_InsText.mono _ _ _ _
   | exact impl_TemplateOf.mono _ _ _
   | exact impl_inBank.mono _ _ _
   | exact impl_jumps.mono _ _ _ _ _
   | exact LeO.none _
   | refine LeO.ite ?_ ?_
   | refine LeO.bind ?_ (fun _ => ?_)
  intro y0 y1 y2 y3
  unfold impl_listedAt.l0
  repeat' first
  | (with_reducible first | exact ih0 _ _ _ | exact ih1 _ _ _ _ | exact impl_HexOf.mono _ _ _ | exact impl_InsText.mono _ _ _ _ | exact impl_TemplateOf.mono _ _ _ | exact impl_inBank.mono _ _ _ | exact impl_jumps.mono _ _ _ _ _ | exact LeO.refl _ | exact LeO.none _ | refine LeO.ite ?_ ?_ | refine LeO.bind ?_ (fun _ => ?_))
  | exact ih0 _ _ _
  | exact ih1 _ _ _ _
  | exact impl_HexOf.mono _ _ _
  | exact impl_InsText.mono _ _ _ _
  | exact impl_TemplateOf.mono _ _ _
  | exact impl_inBank.mono _ _ _
  | exact impl_jumps.mono _ _ _ _ _
  | exact LeO.none _
  | refine LeO.ite ?_ ?_
  | refine LeO.bind ?_ (fun _ => ?_)
theorem impl_listedAt.mono:∀ a0 a1 k,LeO (impl_listedAt.f k a0 a1) (impl_listedAt.f (k + 1) a0 a1):=by
 intro a0 a1 k
 obtain ⟨ih0,ih1⟩:=impl_listedAt.mono_l k
 unfold impl_listedAt.f
 repeat' first
   | (with_reducible first | exact ih0 _ _ _ | exact ih1 _ _ _ _ | exact impl_HexOf.mono _ _ _ | exact impl_InsText.mono _ _ _ _ | exact impl_TemplateOf.mono _ _ _ | exact impl_inBank.mono _ _ _ | exact impl_jumps.mono _ _ _ _ _ | exact LeO.refl _ | exact LeO.none _ | refine LeO.ite ?_ ?_ | refine LeO.bind ?_ (fun _ => ?_))
   | exact ih0 _ _ _
   | exact ih1 _ _ _ _
   | exact impl_HexOf.mono _ _ _
   | exact impl_InsText.mono _ _ _ _
   | exact impl_TemplateOf.mono _ _ _
   | exact impl_inBank.mono _ _ _
   | exact impl_jumps.mono _ _ _ _ _
   | exact LeO.none _
   | refine LeO.ite ?_ ?_
   | refine LeO.bind ?_ (fun _ => ?_)
theorem impl_listedAt.calls (k:Nat) (a0:ByteArray) (a1:Int) (r1:ByteArray) (r2:Int) (w:World) (h:impl_listedAt.f k a0 a1 = some (r1,r2)) (hG:Go.Proofs.YtodlnnoekccmmaaGreatDoor.LibW.GL w:=by first | exact hG | exact hG.below q4_ | exact hG.drewN _) :
  Calls Tryz.prog 87 #[.string a0,.int .i64 a1] w fun e w' => e = .returned (.tuple #[.string r1,.int .i64 r2]) ∧ Below w.heap.size w w':=by
 have hu30:=Tryz.underlying30
 have HB:=Aside0.mk (Below.refl w.heap.size w)
 have H:(impl_listedAt.l0 k a0 a1 (wrap64 ((wrap64 ((wrap64 (Int.tdiv a1 256)) + 1)) * 256)) 0) = some (r1,r2):=h
 clear h
 have HC3:=Aside0.mk H
 clear H
 go_enter Tryz.func87,Tryz.ntmps87
 go_upto_block 0 with (fail)
 go_cut [7] (fun v7 wc => ∃ (kq:Nat) (x7_2:Int),v7 = .int .i64 x7_2 ∧ Aside0 (impl_listedAt.j1 kq a0 a1 x7_2 = some (r1,r2)) ∧ Aside0 (kq ≤ k) ∧ Aside0 (Below w.heap.size w wc))
 case first =>
  have H:=HC3.out
  clear HC3
  have H':=Aside0.mk H
  clear H
  go_wp2
  go_loopg [7] k (fun kq v7 w' => ∃ (x7_1:Int),v7 = .int .i64 x7_1 ∧ Aside0 (impl_listedAt.l0 kq a0 a1 (wrap64 ((wrap64 ((wrap64 (Int.tdiv a1 256)) + 1)) * 256)) x7_1 = some (r1,r2)) ∧ Aside0 (kq ≤ k) ∧ Aside0 (Below w.heap.size w w'))
  case atStart => exact ⟨(0),q69_,H',⟨Nat.le_refl _⟩,⟨q50_⟩⟩
  clear H'
  try clear p2
  obtain ⟨x7_1,rfl,HA,HK1,HB⟩:=hrel
  cases gk with
  | zero => exact absurd HA.out (by simp [impl_listedAt.l0])
  | succ k1 =>
   have H:=HA.out
   clear HA
   simp only [impl_listedAt.l0] at H
   by_cases c4:(wrap64 (a1 + x7_1)) < (wrap64 ((wrap64 ((wrap64 (Int.tdiv a1 256)) + 1)) * 256))
   ·rw [if_pos c4] at H
    have c4b0:decide ((wrap64 (a1 + x7_1)) < (wrap64 ((wrap64 ((wrap64 (Int.tdiv a1 256)) + 1)) * 256))) = true:=decide_eq_true c4
    clear c4
    (first | rw [c4b0] | (simp only [i64_w,i32_w];rw [c4b0]) | skip)
    obtain ⟨ji5,hji5⟩:∃ j_:Int,(wrap64 (a1 + x7_1)) = j_:=⟨_,rfl⟩
    replace H:(if 0 ≤ (ji5) then (if (ji5) < (a0.size:Int) then (if (bt a0 (ji5)) = 0 then (impl_listedAt.l0 k1 a0 a1 (wrap64 ((wrap64 ((wrap64 (Int.tdiv a1 256)) + 1)) * 256)) (wrap64 (x7_1 + 1))) else (impl_listedAt.j1 k1 a0 a1 x7_1)) else (none)) else (none)) = some (r1,r2):=by first | (rw [hji5] at H;exact H) | (simp only [hji5] at H ⊢;exact H)
    (try rw [hji5] at c4b0)
    have hji5w:(IntKind.i64.wrap (a1 + x7_1)) = ji5:=(i64_w _).trans hji5
    by_cases c6:0 ≤ (ji5)
    rotate_left
    ·rw [if_neg c6] at H
     exact absurd H (by simp)
    rw [if_pos c6] at H
    have c6b0:decide (0 ≤ (ji5)) = true:=decide_eq_true c6
    clear c6
    by_cases c7:(ji5) < (a0.size:Int)
    rotate_left
    ·rw [if_neg c7] at H
     exact absurd H (by simp)
    rw [if_pos c7] at H
    have c7b0:decide ((ji5) < (a0.size:Int)) = true:=decide_eq_true c7
    clear c7
    by_cases c9:(bt a0 (ji5)) = 0
    ·rw [if_pos c9] at H
     have c9b0:((bt a0 (ji5)) == 0) = true:=beq_iff_eq.mpr c9
     have c9b1:((bt a0 (ji5)) != 0) = false:=bne_eq_false_iff_eq.mpr c9
     clear c9
     have H':=Aside0.mk H
     clear H
     have p8:0 ≤ ((ji5):Int):=of_decide_eq_true q86_
     have q8:(ji5) < (a0.size:Int):=of_decide_eq_true q86_
     have hx8:=bt_at a0 (ji5)
     replace p8:=eq_true p8
     replace q8:=eq_true q8
     go_wp2
     go_roundg k1
     case measure => have:=HK1.out;omega
     case rel => exact ⟨(wrap64 (x7_1 + 1)),q69_,q68_,⟨by have:=HK1.out;omega⟩,⟨q50_⟩⟩
    rw [if_neg c9] at H
    have c9b0:((bt a0 (ji5)) == 0) = false:=beq_eq_false_iff_ne.mpr c9
    have c9b1:((bt a0 (ji5)) != 0) = true:=bne_iff_ne.mpr c9
    have H':=Aside0.mk H
    clear H
    have p8:0 ≤ ((ji5):Int):=of_decide_eq_true q86_
    have q8:(ji5) < (a0.size:Int):=of_decide_eq_true q86_
    have hx8:=bt_at a0 (ji5)
    replace p8:=eq_true p8
    replace q8:=eq_true q8
    go_wp2
    go_meet
    case rel => exact ⟨_,(x7_1),q69_,q68_,⟨by have:=HK1.out;first | omega | exact Nat.le_refl _⟩,⟨q50_⟩⟩
   rw [if_neg c4] at H
   have c4b0:decide ((wrap64 (a1 + x7_1)) < (wrap64 ((wrap64 ((wrap64 (Int.tdiv a1 256)) + 1)) * 256))) = false:=decide_eq_false c4
   clear c4
   (first | rw [c4b0] | (simp only [i64_w,i32_w];rw [c4b0]) | skip)
   have H':=Aside0.mk H
   clear H
   go_wp2
   go_meet
   case rel => exact ⟨_,(x7_1),q69_,H',⟨by have:=HK1.out;first | omega | exact Nat.le_refl _⟩,⟨q50_⟩⟩
 clear HC3
 try clear p2 p2
 try clear c4
 try clear c4b0
 try clear c6
 try clear c6b0
 try clear p6
 try clear c7
 try clear c7b0
 try clear c8
 try clear p8 p8
 try clear q8 q8
 try clear hx8
 try clear c9
 try clear c9b0
 try clear c9b1
 obtain ⟨kq,x7_2,rfl,HA,HJ2,HB⟩:=hcut
 cases kq with
 | zero => exact absurd HA.out (by simp [impl_listedAt.j1])
 | succ kj2 =>
  have H:=HA.out
  clear HA
  simp only [impl_listedAt.j1] at H
  by_cases c10:x7_2 ≥ 4
  ·rw [if_pos c10] at H
   have c10b0:decide (4 ≤ x7_2) = true:=decide_eq_true c10
   clear c10
   replace H:=Option.bind_eq_some_iff.mp H
   obtain ⟨t502,A110,H⟩:=H
   have A11:=Aside0.mk A110
   clear A110
   by_cases c12:3 + t502.size ≤ 9223372036854775807
   rotate_left
   ·rw [if_neg c12] at H
    exact absurd H (by simp)
   rw [if_pos c12] at H
   have c12b0:=eq_true c12
   have c12b1:decide (3 + t502.size ≤ 9223372036854775807) = true:=decide_eq_true c12
   try have c12b2:(9223372036854775807 < 3 + t502.size) = False:=eq_false (Nat.not_lt.2 c12)
   simp only [Option.some.injEq,Prod.mk.injEq] at H
   obtain ⟨rfl,rfl⟩:=H
   go_wp2_with (first | ((with_reducible refine gate_callee (f:=89) rfl ?_);refine goesL_ (some 35) rfl rfl Tryz.func89 (by kernel_rfl) rfl #[.int .i64 x7_2] rfl q46_ ?_;(with_reducible refine (impl_decimal.calls x7_2 t502 _ A11.out).mono ?_);rintro e w13 ⟨rfl,hb⟩;refine ⟨_,rfl,?_⟩;replace HB:=Aside0.mk (below_step q50_ hb);(try clear hb)))
   go_ret2
   exact ⟨q53_,q50_⟩
  rw [if_neg c10] at H
  have c10b0:decide (4 ≤ x7_2) = false:=decide_eq_false c10
  clear c10
  by_cases c14:0 ≤ a1
  rotate_left
  ·rw [if_neg c14] at H
   exact absurd H (by simp)
  rw [if_pos c14] at H
  have c14b0:decide (0 ≤ a1) = true:=decide_eq_true c14
  clear c14
  by_cases c15:a1 < (a0.size:Int)
  rotate_left
  ·rw [if_neg c15] at H
   exact absurd H (by simp)
  rw [if_pos c15] at H
  have c15b0:decide (a1 < (a0.size:Int)) = true:=decide_eq_true c15
  clear c15
  replace H:=Option.bind_eq_some_iff.mp H
  obtain ⟨t503,A170,H⟩:=H
  have A17:=Aside0.mk A170
  clear A170
  by_cases c18:3 + t503.size ≤ 9223372036854775807
  rotate_left
  ·rw [if_neg c18] at H
   exact absurd H (by simp)
  rw [if_pos c18] at H
  have c18b0:=eq_true c18
  have c18b1:decide (3 + t503.size ≤ 9223372036854775807) = true:=decide_eq_true c18
  try have c18b2:(9223372036854775807 < 3 + t503.size) = False:=eq_false (Nat.not_lt.2 c18)
  replace H:=Option.bind_eq_some_iff.mp H
  obtain ⟨⟨t504,t505,t506,t507⟩,A190,H⟩:=H
  replace H:(if t507 = 0 then (some ((⟨#[100,98,32]⟩:ByteArray) ++ t503,1)) else ((impl_TemplateOf.f kj2 t504 t505).bind fun t509 => ((strings_HasPrefix.f t509 (⟨#[106,114,32]⟩:ByteArray)).bind fun t510 => (if t510 = true then ((impl_jumps.f kj2 t504 t505 t506 a1).bind fun bt512 => ((impl_isWord.f bt512.1).bind fun t514 => (if t514 = true then ((impl_HexOf.f kj2 bt512.1 4).bind fun t515 => ((strings_Replace.f t509 (⟨#[101,56]⟩:ByteArray) t515 1).bind fun t516 => (some (t516,t507)))) else (some ((⟨#[100,98,32]⟩:ByteArray) ++ t503,1))))) else ((impl_InsText.f kj2 t504 t505 t506).bind fun t511 => (some (t511,t507))))))) = some (r1,r2):=H
  have A19:=Aside0.mk A190
  clear A190
  by_cases c20:t507 = 0
  ·rw [if_pos c20] at H
   have c20b0:(t507 == 0) = true:=beq_iff_eq.mpr c20
   have c20b1:(t507 != 0) = false:=bne_eq_false_iff_eq.mpr c20
   clear c20
   simp only [Option.some.injEq,Prod.mk.injEq] at H
   obtain ⟨rfl,rfl⟩:=H
   have p16:0 ≤ (a1:Int):=of_decide_eq_true q86_
   have q16:a1 < (a0.size:Int):=of_decide_eq_true q86_
   have hx16:=bt_at a0 a1
   replace p16:=eq_true p16
   replace q16:=eq_true q16
   go_wp2_with (first | ((with_reducible refine gate_callee (f:=112) rfl ?_);refine goesL_ (some 42) rfl rfl Tryz.func112 (by kernel_rfl) rfl #[.int .i64 (wrap64 (bt a0 a1)),.int .i64 2] rfl q10_ ?_;(with_reducible refine (impl_HexOf.calls kj2 (wrap64 (bt a0 a1)) 2 t503 _ A17.out).mono ?_);rintro e w21 ⟨rfl,hb⟩;refine ⟨_,rfl,?_⟩;replace HB:=Aside0.mk (below_step q50_ hb);(try clear hb)) | ((with_reducible refine gate_callee (f:=80) rfl ?_);refine goesL_ (some 47) rfl rfl Tryz.func80 (by kernel_rfl) rfl #[.string a0,.int .i64 a1] rfl q46_ ?_;(with_reducible refine (impl_inBank.calls kj2 a0 a1 t504 t505 t506 t507 _ A19.out).mono ?_);rintro e w22 ⟨rfl,hb⟩;refine ⟨_,rfl,?_⟩;replace HB:=Aside0.mk (below_step q50_ hb);(try clear hb)) | ((with_reducible refine gate_dst (N:=9) rfl ?_);refine box_event ?hg (N:=9) ?hd (cs:=#[.int .i64 0,.bool false,.int .i64 0]) (t:=30) ?hr ?_;(case hd => rfl);(case hg => rfl);(case hr => exact q114_);intro gb508 hg w23 hbox hb;have n0_:=Aside0.mk (below_step q50_ hb);have n1_:=Aside0.mk (hbox);have n2_:=Aside0.mk ((q28_:w.heap.size ≤ gb508));have n3_:=Aside0.mk ((q28_:w.heap.size ≤ gb508));clear HB;have HB:=n0_;have BK508:=n1_;have GW508:=n2_;have GE508:=n3_;clear n0_ n1_ n2_ n3_;clear hb hbox hg;have hcz24_0:w23.cell? ⟨gb508,0,none⟩ = some (.int .i64 0):=(blk_cell BK508.out 0).trans rfl;have hcz24_1:w23.cell? ⟨gb508,1,none⟩ = some (.bool false):=(blk_cell BK508.out 1).trans rfl;have hcz24_2:w23.cell? ⟨gb508,2,none⟩ = some (.int .i64 0):=(blk_cell BK508.out 2).trans rfl;have hfz24_0:=blk_frozen BK508.out 0;have hfz24_1:=blk_frozen BK508.out 1;have hfz24_2:=blk_frozen BK508.out 2))
   go_ret2
   exact ⟨q53_,q40_⟩
  rw [if_neg c20] at H
  have c20b0:(t507 == 0) = false:=beq_eq_false_iff_ne.mpr c20
  have c20b1:(t507 != 0) = true:=bne_iff_ne.mpr c20
  replace H:=Option.bind_eq_some_iff.mp H
  obtain ⟨t509,A250,H⟩:=H
  have A25:=Aside0.mk A250
  clear A250
  replace H:=Option.bind_eq_some_iff.mp H
  obtain ⟨t510,A260,H⟩:=H
  have A26:=Aside0.mk A260
  clear A260
  by_cases c27:t510 = true
  ·subst c27
   replace H:((impl_jumps.f kj2 t504 t505 t506 a1).bind fun bt512 => ((impl_isWord.f bt512.1).bind fun t514 => (if t514 = true then ((impl_HexOf.f kj2 bt512.1 4).bind fun t515 => ((strings_Replace.f t509 (⟨#[101,56]⟩:ByteArray) t515 1).bind fun t516 => (some (t516,t507)))) else (some ((⟨#[100,98,32]⟩:ByteArray) ++ t503,1))))) = some (r1,r2):=by rw [if_pos rfl] at H;exact H
   replace H:=Option.bind_eq_some_iff.mp H
   obtain ⟨⟨t512,t513⟩,A280,H⟩:=H
   replace H:((impl_isWord.f t512).bind fun t514 => (if t514 = true then ((impl_HexOf.f kj2 t512 4).bind fun t515 => ((strings_Replace.f t509 (⟨#[101,56]⟩:ByteArray) t515 1).bind fun t516 => (some (t516,t507)))) else (some ((⟨#[100,98,32]⟩:ByteArray) ++ t503,1)))) = some (r1,r2):=H
   have A28:=Aside0.mk A280
   clear A280
   replace H:=Option.bind_eq_some_iff.mp H
   obtain ⟨t514,A290,H⟩:=H
   have A29:=Aside0.mk A290
   clear A290
   by_cases c30:t514 = true
   ·subst c30
    replace H:((impl_HexOf.f kj2 t512 4).bind fun t515 => ((strings_Replace.f t509 (⟨#[101,56]⟩:ByteArray) t515 1).bind fun t516 => (some (t516,t507)))) = some (r1,r2):=by rw [if_pos rfl] at H;exact H
    replace H:=Option.bind_eq_some_iff.mp H
    obtain ⟨t515,A310,H⟩:=H
    have A31:=Aside0.mk A310
    clear A310
    replace H:=Option.bind_eq_some_iff.mp H
    obtain ⟨t516,A320,H⟩:=H
    have A32:=Aside0.mk A320
    clear A320
    simp only [Option.some.injEq,Prod.mk.injEq] at H
    obtain ⟨rfl,rfl⟩:=H
    have p16:0 ≤ (a1:Int):=of_decide_eq_true q86_
    have q16:a1 < (a0.size:Int):=of_decide_eq_true q86_
    have hx16:=bt_at a0 a1
    replace p16:=eq_true p16
    replace q16:=eq_true q16
    go_wp2_with (first | ((with_reducible refine gate_callee (f:=112) rfl ?_);refine goesL_ (some 42) rfl rfl Tryz.func112 (by kernel_rfl) rfl #[.int .i64 (wrap64 (bt a0 a1)),.int .i64 2] rfl q10_ ?_;(with_reducible refine (impl_HexOf.calls kj2 (wrap64 (bt a0 a1)) 2 t503 _ A17.out).mono ?_);rintro e w33 ⟨rfl,hb⟩;refine ⟨_,rfl,?_⟩;replace HB:=Aside0.mk (below_step q50_ hb);(try clear hb)) | ((with_reducible refine gate_callee (f:=80) rfl ?_);refine goesL_ (some 47) rfl rfl Tryz.func80 (by kernel_rfl) rfl #[.string a0,.int .i64 a1] rfl q46_ ?_;(with_reducible refine (impl_inBank.calls kj2 a0 a1 t504 t505 t506 t507 _ A19.out).mono ?_);rintro e w34 ⟨rfl,hb⟩;refine ⟨_,rfl,?_⟩;replace HB:=Aside0.mk (below_step q50_ hb);(try clear hb)) | ((with_reducible refine gate_dst (N:=9) rfl ?_);refine box_event ?hg (N:=9) ?hd (cs:=#[.int .i64 0,.bool false,.int .i64 0]) (t:=30) ?hr ?_;(case hd => rfl);(case hg => rfl);(case hr => exact q114_);intro gb508 hg w35 hbox hb;have n0_:=Aside0.mk (below_step q50_ hb);have n1_:=Aside0.mk (hbox);have n2_:=Aside0.mk ((q28_:w.heap.size ≤ gb508));have n3_:=Aside0.mk ((q28_:w.heap.size ≤ gb508));clear HB;have HB:=n0_;have BK508:=n1_;have GW508:=n2_;have GE508:=n3_;clear n0_ n1_ n2_ n3_;clear hb hbox hg;have hcz36_0:w35.cell? ⟨gb508,0,none⟩ = some (.int .i64 0):=(blk_cell BK508.out 0).trans rfl;have hcz36_1:w35.cell? ⟨gb508,1,none⟩ = some (.bool false):=(blk_cell BK508.out 1).trans rfl;have hcz36_2:w35.cell? ⟨gb508,2,none⟩ = some (.int .i64 0):=(blk_cell BK508.out 2).trans rfl;have hfz36_0:=blk_frozen BK508.out 0;have hfz36_1:=blk_frozen BK508.out 1;have hfz36_2:=blk_frozen BK508.out 2) | ((with_reducible refine gate_callee (f:=46) rfl ?_);refine goesL_ (some 57) rfl rfl Tryz.func46 (by kernel_rfl) rfl #[.int .i64 t504,.bool t505] rfl q46_ ?_;(with_reducible refine (impl_TemplateOf.calls kj2 t504 t505 t509 _ A25.out).mono ?_);rintro e w37 ⟨rfl,hb⟩;refine ⟨_,rfl,?_⟩;have n0_:=Aside0.mk (blk_below (g:=gb508) (o:=.cells #[.int .i64 t504,.bool t505,.int .i64 t506] 30 (0,0)) q1_ hb);have n1_:=Aside0.mk (below_step q40_ hb);clear BK508;clear HB;have BK508:=n0_;have HB:=n1_;clear n0_ n1_;(try clear hb)) | ((with_reducible refine gate_callee (f:=117) rfl ?_);refine goesL_ (some 59) rfl rfl Tryz.func117 (by kernel_rfl) rfl #[.string t509,.string (⟨#[106,114,32]⟩:ByteArray)] rfl q46_ ?_;(with_reducible refine (strings_HasPrefix.calls t509 (⟨#[106,114,32]⟩:ByteArray) true _ A26.out).mono ?_);rintro e w' ⟨rfl,⟨nd,rfl⟩⟩;refine ⟨_,rfl,?_⟩;have hcz38_0:w37.cell? ⟨gb508,0,none⟩ = some (.int .i64 t504):=(blk_cell BK508.out 0).trans rfl;have hcz38_1:w37.cell? ⟨gb508,1,none⟩ = some (.bool t505):=(blk_cell BK508.out 1).trans rfl;have hcz38_2:w37.cell? ⟨gb508,2,none⟩ = some (.int .i64 t506):=(blk_cell BK508.out 2).trans rfl;have hfz38_0:=blk_frozen BK508.out 0;have hfz38_1:=blk_frozen BK508.out 1;have hfz38_2:=blk_frozen BK508.out 2) | ((with_reducible refine gate_callee (f:=83) rfl ?_);refine goesL_ (some 67) rfl rfl Tryz.func83 (by kernel_rfl) rfl #[.agg #[.int .i64 t504,.bool t505,.int .i64 t506],.int .i64 a1] rfl q46_ ?_;(with_reducible refine (impl_jumps.calls kj2 t504 t505 t506 a1 t512 t513 _ A28.out).mono ?_);rintro e w39 ⟨rfl,hb⟩;refine ⟨_,rfl,?_⟩;have n0_:=Aside0.mk (blk_below (g:=gb508) (o:=.cells #[.int .i64 t504,.bool t505,.int .i64 t506] 30 (0,0)) q65_ hb);have n1_:=Aside0.mk (below_step q40_ hb);clear BK508;clear HB;have BK508:=n0_;have HB:=n1_;clear n0_ n1_;(try clear hb)) | ((with_reducible refine gate_callee (f:=57) rfl ?_);refine goesL_ (some 71) rfl rfl Tryz.func57 (by kernel_rfl) rfl #[.int .i64 t512] rfl q46_ ?_;(with_reducible refine (impl_isWord.calls t512 true _ A29.out).mono ?_);rintro e w' ⟨rfl,⟨nd,rfl⟩⟩;refine ⟨_,rfl,?_⟩) | ((with_reducible refine gate_callee (f:=112) rfl ?_);refine goesL_ (some 76) rfl rfl Tryz.func112 (by kernel_rfl) rfl #[.int .i64 t512,.int .i64 4] rfl q46_ ?_;(with_reducible refine (impl_HexOf.calls kj2 t512 4 t515 _ A31.out).mono ?_);rintro e w40 ⟨rfl,hb⟩;refine ⟨_,rfl,?_⟩;have n0_:=Aside0.mk (blk_below (g:=gb508) (o:=.cells #[.int .i64 t504,.bool t505,.int .i64 t506] 30 (0,0)) q65_ hb);have n1_:=Aside0.mk (below_step q40_ hb);clear BK508;clear HB;have BK508:=n0_;have HB:=n1_;clear n0_ n1_;(try clear hb)) | ((with_reducible refine gate_callee (f:=64) rfl ?_);refine goesL_ (some 77) rfl rfl Tryz.func64 (by kernel_rfl) rfl #[.string t509,.string (⟨#[101,56]⟩:ByteArray),.string t515,.int .i64 1] rfl q46_ ?_;(with_reducible refine (strings_Replace.calls t509 (⟨#[101,56]⟩:ByteArray) t515 1 t516 _ A32.out).mono ?_);rintro e w41 ⟨rfl,hb⟩;refine ⟨_,rfl,?_⟩;have n0_:=Aside0.mk (blk_below (g:=gb508) (o:=.cells #[.int .i64 t504,.bool t505,.int .i64 t506] 30 (0,0)) q65_ hb);have n1_:=Aside0.mk (below_step q40_ hb);clear BK508;clear HB;have BK508:=n0_;have HB:=n1_;clear n0_ n1_;(try clear hb)))
    go_ret2
    exact ⟨q53_,q40_⟩
   replace c30:=Bool.eq_false_iff.mpr c30
   subst c30
   replace H:(some ((⟨#[100,98,32]⟩:ByteArray) ++ t503,1)) = some (r1,r2):=by rw [if_neg (show ¬ (false = true) by decide)] at H;exact H
   simp only [Option.some.injEq,Prod.mk.injEq] at H
   obtain ⟨rfl,rfl⟩:=H
   have p16:0 ≤ (a1:Int):=of_decide_eq_true q86_
   have q16:a1 < (a0.size:Int):=of_decide_eq_true q86_
   have hx16:=bt_at a0 a1
   replace p16:=eq_true p16
   replace q16:=eq_true q16
   go_wp2_with (first | ((with_reducible refine gate_callee (f:=112) rfl ?_);refine goesL_ (some 42) rfl rfl Tryz.func112 (by kernel_rfl) rfl #[.int .i64 (wrap64 (bt a0 a1)),.int .i64 2] rfl q10_ ?_;(with_reducible refine (impl_HexOf.calls kj2 (wrap64 (bt a0 a1)) 2 t503 _ A17.out).mono ?_);rintro e w42 ⟨rfl,hb⟩;refine ⟨_,rfl,?_⟩;replace HB:=Aside0.mk (below_step q50_ hb);(try clear hb)) | ((with_reducible refine gate_callee (f:=80) rfl ?_);refine goesL_ (some 47) rfl rfl Tryz.func80 (by kernel_rfl) rfl #[.string a0,.int .i64 a1] rfl q46_ ?_;(with_reducible refine (impl_inBank.calls kj2 a0 a1 t504 t505 t506 t507 _ A19.out).mono ?_);rintro e w43 ⟨rfl,hb⟩;refine ⟨_,rfl,?_⟩;replace HB:=Aside0.mk (below_step q50_ hb);(try clear hb)) | ((with_reducible refine gate_dst (N:=9) rfl ?_);refine box_event ?hg (N:=9) ?hd (cs:=#[.int .i64 0,.bool false,.int .i64 0]) (t:=30) ?hr ?_;(case hd => rfl);(case hg => rfl);(case hr => exact q114_);intro gb508 hg w44 hbox hb;have n0_:=Aside0.mk (below_step q50_ hb);have n1_:=Aside0.mk (hbox);have n2_:=Aside0.mk ((q28_:w.heap.size ≤ gb508));have n3_:=Aside0.mk ((q28_:w.heap.size ≤ gb508));clear HB;have HB:=n0_;have BK508:=n1_;have GW508:=n2_;have GE508:=n3_;clear n0_ n1_ n2_ n3_;clear hb hbox hg;have hcz45_0:w44.cell? ⟨gb508,0,none⟩ = some (.int .i64 0):=(blk_cell BK508.out 0).trans rfl;have hcz45_1:w44.cell? ⟨gb508,1,none⟩ = some (.bool false):=(blk_cell BK508.out 1).trans rfl;have hcz45_2:w44.cell? ⟨gb508,2,none⟩ = some (.int .i64 0):=(blk_cell BK508.out 2).trans rfl;have hfz45_0:=blk_frozen BK508.out 0;have hfz45_1:=blk_frozen BK508.out 1;have hfz45_2:=blk_frozen BK508.out 2) | ((with_reducible refine gate_callee (f:=46) rfl ?_);refine goesL_ (some 57) rfl rfl Tryz.func46 (by kernel_rfl) rfl #[.int .i64 t504,.bool t505] rfl q46_ ?_;(with_reducible refine (impl_TemplateOf.calls kj2 t504 t505 t509 _ A25.out).mono ?_);rintro e w46 ⟨rfl,hb⟩;refine ⟨_,rfl,?_⟩;have n0_:=Aside0.mk (blk_below (g:=gb508) (o:=.cells #[.int .i64 t504,.bool t505,.int .i64 t506] 30 (0,0)) q1_ hb);have n1_:=Aside0.mk (below_step q40_ hb);clear BK508;clear HB;have BK508:=n0_;have HB:=n1_;clear n0_ n1_;(try clear hb)) | ((with_reducible refine gate_callee (f:=117) rfl ?_);refine goesL_ (some 59) rfl rfl Tryz.func117 (by kernel_rfl) rfl #[.string t509,.string (⟨#[106,114,32]⟩:ByteArray)] rfl q46_ ?_;(with_reducible refine (strings_HasPrefix.calls t509 (⟨#[106,114,32]⟩:ByteArray) true _ A26.out).mono ?_);rintro e w' ⟨rfl,⟨nd,rfl⟩⟩;refine ⟨_,rfl,?_⟩;have hcz47_0:w46.cell? ⟨gb508,0,none⟩ = some (.int .i64 t504):=(blk_cell BK508.out 0).trans rfl;have hcz47_1:w46.cell? ⟨gb508,1,none⟩ = some (.bool t505):=(blk_cell BK508.out 1).trans rfl;have hcz47_2:w46.cell? ⟨gb508,2,none⟩ = some (.int .i64 t506):=(blk_cell BK508.out 2).trans rfl;have hfz47_0:=blk_frozen BK508.out 0;have hfz47_1:=blk_frozen BK508.out 1;have hfz47_2:=blk_frozen BK508.out 2) | ((with_reducible refine gate_callee (f:=83) rfl ?_);refine goesL_ (some 67) rfl rfl Tryz.func83 (by kernel_rfl) rfl #[.agg #[.int .i64 t504,.bool t505,.int .i64 t506],.int .i64 a1] rfl q46_ ?_;(with_reducible refine (impl_jumps.calls kj2 t504 t505 t506 a1 t512 t513 _ A28.out).mono ?_);rintro e w48 ⟨rfl,hb⟩;refine ⟨_,rfl,?_⟩;have n0_:=Aside0.mk (blk_below (g:=gb508) (o:=.cells #[.int .i64 t504,.bool t505,.int .i64 t506] 30 (0,0)) q65_ hb);have n1_:=Aside0.mk (below_step q40_ hb);clear BK508;clear HB;have BK508:=n0_;have HB:=n1_;clear n0_ n1_;(try clear hb)) | ((with_reducible refine gate_callee (f:=57) rfl ?_);refine goesL_ (some 71) rfl rfl Tryz.func57 (by kernel_rfl) rfl #[.int .i64 t512] rfl q46_ ?_;(with_reducible refine (impl_isWord.calls t512 false _ A29.out).mono ?_);rintro e w' ⟨rfl,⟨nd,rfl⟩⟩;refine ⟨_,rfl,?_⟩))
   go_ret2
   exact ⟨q53_,q40_⟩
  replace c27:=Bool.eq_false_iff.mpr c27
  subst c27
  replace H:((impl_InsText.f kj2 t504 t505 t506).bind fun t511 => (some (t511,t507))) = some (r1,r2):=by rw [if_neg (show ¬ (false = true) by decide)] at H;exact H
  replace H:=Option.bind_eq_some_iff.mp H
  obtain ⟨t511,A490,H⟩:=H
  have A49:=Aside0.mk A490
  clear A490
  simp only [Option.some.injEq,Prod.mk.injEq] at H
  obtain ⟨rfl,rfl⟩:=H
  have p16:0 ≤ (a1:Int):=of_decide_eq_true q86_
  have q16:a1 < (a0.size:Int):=of_decide_eq_true q86_
  have hx16:=bt_at a0 a1
  replace p16:=eq_true p16
  replace q16:=eq_true q16
  go_wp2_with (first | ((with_reducible refine gate_callee (f:=112) rfl ?_);refine goesL_ (some 42) rfl rfl Tryz.func112 (by kernel_rfl) rfl #[.int .i64 (wrap64 (bt a0 a1)),.int .i64 2] rfl q10_ ?_;(with_reducible refine (impl_HexOf.calls kj2 (wrap64 (bt a0 a1)) 2 t503 _ A17.out).mono ?_);rintro e w50 ⟨rfl,hb⟩;refine ⟨_,rfl,?_⟩;replace HB:=Aside0.mk (below_step q50_ hb);(try clear hb)) | ((with_reducible refine gate_callee (f:=80) rfl ?_);refine goesL_ (some 47) rfl rfl Tryz.func80 (by kernel_rfl) rfl #[.string a0,.int .i64 a1] rfl q46_ ?_;(with_reducible refine (impl_inBank.calls kj2 a0 a1 t504 t505 t506 t507 _ A19.out).mono ?_);rintro e w51 ⟨rfl,hb⟩;refine ⟨_,rfl,?_⟩;replace HB:=Aside0.mk (below_step q50_ hb);(try clear hb)) | ((with_reducible refine gate_dst (N:=9) rfl ?_);refine box_event ?hg (N:=9) ?hd (cs:=#[.int .i64 0,.bool false,.int .i64 0]) (t:=30) ?hr ?_;(case hd => rfl);(case hg => rfl);(case hr => exact q114_);intro gb508 hg w52 hbox hb;have n0_:=Aside0.mk (below_step q50_ hb);have n1_:=Aside0.mk (hbox);have n2_:=Aside0.mk ((q28_:w.heap.size ≤ gb508));have n3_:=Aside0.mk ((q28_:w.heap.size ≤ gb508));clear HB;have HB:=n0_;have BK508:=n1_;have GW508:=n2_;have GE508:=n3_;clear n0_ n1_ n2_ n3_;clear hb hbox hg;have hcz53_0:w52.cell? ⟨gb508,0,none⟩ = some (.int .i64 0):=(blk_cell BK508.out 0).trans rfl;have hcz53_1:w52.cell? ⟨gb508,1,none⟩ = some (.bool false):=(blk_cell BK508.out 1).trans rfl;have hcz53_2:w52.cell? ⟨gb508,2,none⟩ = some (.int .i64 0):=(blk_cell BK508.out 2).trans rfl;have hfz53_0:=blk_frozen BK508.out 0;have hfz53_1:=blk_frozen BK508.out 1;have hfz53_2:=blk_frozen BK508.out 2) | ((with_reducible refine gate_callee (f:=46) rfl ?_);refine goesL_ (some 57) rfl rfl Tryz.func46 (by kernel_rfl) rfl #[.int .i64 t504,.bool t505] rfl q46_ ?_;(with_reducible refine (impl_TemplateOf.calls kj2 t504 t505 t509 _ A25.out).mono ?_);rintro e w54 ⟨rfl,hb⟩;refine ⟨_,rfl,?_⟩;have n0_:=Aside0.mk (blk_below (g:=gb508) (o:=.cells #[.int .i64 t504,.bool t505,.int .i64 t506] 30 (0,0)) q1_ hb);have n1_:=Aside0.mk (below_step q40_ hb);clear BK508;clear HB;have BK508:=n0_;have HB:=n1_;clear n0_ n1_;(try clear hb)) | ((with_reducible refine gate_callee (f:=117) rfl ?_);refine goesL_ (some 59) rfl rfl Tryz.func117 (by kernel_rfl) rfl #[.string t509,.string (⟨#[106,114,32]⟩:ByteArray)] rfl q46_ ?_;(with_reducible refine (strings_HasPrefix.calls t509 (⟨#[106,114,32]⟩:ByteArray) false _ A26.out).mono ?_);rintro e w' ⟨rfl,⟨nd,rfl⟩⟩;refine ⟨_,rfl,?_⟩;have hcz55_0:w54.cell? ⟨gb508,0,none⟩ = some (.int .i64 t504):=(blk_cell BK508.out 0).trans rfl;have hcz55_1:w54.cell? ⟨gb508,1,none⟩ = some (.bool t505):=(blk_cell BK508.out 1).trans rfl;have hcz55_2:w54.cell? ⟨gb508,2,none⟩ = some (.int .i64 t506):=(blk_cell BK508.out 2).trans rfl;have hfz55_0:=blk_frozen BK508.out 0;have hfz55_1:=blk_frozen BK508.out 1;have hfz55_2:=blk_frozen BK508.out 2) | ((with_reducible refine gate_callee (f:=26) rfl ?_);refine goesL_ (some 62) rfl rfl Tryz.func26 (by kernel_rfl) rfl #[.agg #[.int .i64 t504,.bool t505,.int .i64 t506]] rfl q46_ ?_;(with_reducible refine (impl_InsText.calls kj2 t504 t505 t506 t511 _ A49.out).mono ?_);rintro e w56 ⟨rfl,hb⟩;refine ⟨_,rfl,?_⟩;have n0_:=Aside0.mk (blk_below (g:=gb508) (o:=.cells #[.int .i64 t504,.bool t505,.int .i64 t506] 30 (0,0)) q65_ hb);have n1_:=Aside0.mk (below_step q40_ hb);clear BK508;clear HB;have BK508:=n0_;have HB:=n1_;clear n0_ n1_;(try clear hb)))
  go_ret2
  exact ⟨q53_,q40_⟩
mutual
def impl_Listed.j0:Nat → ByteArray → Int → Bool → Option (List ByteArray × Bool)
 | 0,_,_,_ => none
 | k + 1,x0,x1,x21 => if x21 = true then (some (([]:List ByteArray),false)) else (impl_Listed.l0 k x0 x1 (([]:List ByteArray)) (wrap64 (x1 * 256)))
def impl_Listed.l0:Nat → ByteArray → Int → List ByteArray → Int → Option (List ByteArray × Bool)
 | 0,_,_,_,_ => none
 | k + 1,x0,x1,x7,x8 => if x8 < (wrap64 ((wrap64 (x1 + 1)) * 256)) then ((impl_listedAt.f k x0 x8).bind fun bt522 => (if x7.length < 8796093022208 then (impl_Listed.l0 k x0 x1 (x7 ++ [bt522.1]) (wrap64 (x8 + bt522.2))) else (none))) else (some (x7,true))
end
def impl_Listed.f (k:Nat) (a0:ByteArray) (a1:Int):Option (List ByteArray × Bool):=(impl_banksOf.f a0 2).bind fun t517 => (if t517 = 0 then (impl_Listed.j0 k a0 a1 true) else ((impl_within.f a1 0 (wrap64 (t517 - 1))).bind fun t518 => (impl_Listed.j0 k a0 a1 (!t518))))
theorem impl_Listed.mono_l:∀ k,(∀ y0 y1 y2,LeO (impl_Listed.j0 k y0 y1 y2) (impl_Listed.j0 (k + 1) y0 y1 y2)) ∧ (∀ y0 y1 y2 y3,LeO (impl_Listed.l0 k y0 y1 y2 y3) (impl_Listed.l0 (k + 1) y0 y1 y2 y3))
 | 0 => ⟨fun _ _ _ r h => by simp [impl_Listed.j0] at h,fun _ _ _ _ r h => by simp [impl_Listed.l0] at h⟩
 | k + 1 => by
  obtain ⟨ih0,ih1⟩:=impl_Listed.mono_l k
  refine ⟨?_,?_⟩
  ·intro y0 y1 y2
   unfold impl_Listed.j0
   repeat' first
   | (with_reducible first | exact ih0 _ _ _ | exact ih1 _ _ _ _ | exact impl_listedAt.mono _ _ _ | exact LeO.refl _ | exact LeO.none _ | refine LeO.ite ?_ ?_ | refine LeO.bind ?_ (fun _ => ?_))
   | exact ih0 _ _ _
   | exact ih1 _ _ _ _
   | exact impl_listedAt.mono _ _ _
   | exact LeO.none _
   | refine LeO.ite ?_ ?_
   | refine LeO.bind ?_ (fun _ => ?_)
  intro y0 y1 y2 y3
  unfold impl_Listed.l0
  repeat' first
  | (with_reducible first | exact ih0 _ _ _ | exact ih1 _ _ _ _ | exact impl_listedAt.mono _ _ _ | exact LeO.refl _ | exact LeO.none _ | refine LeO.ite ?_ ?_ | refine LeO.bind ?_ (fun _ => ?_))
  | exact ih0 _ _ _
  | exact ih1 _ _ _ _
  | exact impl_listedAt.mono _ _ _
  | exact LeO.none _
  | refine LeO.ite ?_ ?_
  | refine LeO.bind ?_ (fun _ => ?_)
theorem impl_Listed.mono:∀ a0 a1 k,LeO (impl_Listed.f k a0 a1) (impl_Listed.f (k + 1) a0 a1):=by
 intro a0 a1 k
 obtain ⟨ih0,ih1⟩:=impl_Listed.mono_l k
 unfold impl_Listed.f
 repeat' first
   | (with_reducible first | exact ih0 _ _ _ | exact ih1 _ _ _ _ | exact impl_listedAt.mono _ _ _ | exact LeO.refl _ | exact LeO.none _ | refine LeO.ite ?_ ?_ | refine LeO.bind ?_ (fun _ => ?_))
   | exact ih0 _ _ _
   | exact ih1 _ _ _ _
   | exact impl_listedAt.mono _ _ _
   | exact LeO.none _
   | refine LeO.ite ?_ ?_
   | refine LeO.bind ?_ (fun _ => ?_)
theorem impl_Listed.calls (k:Nat) (a0:ByteArray) (a1:Int) (r1:List ByteArray) (r2:Bool) (w:World) (h:impl_Listed.f k a0 a1 = some (r1,r2)) (hG:Go.Proofs.YtodlnnoekccmmaaGreatDoor.LibW.GL w:=by first | exact hG | exact hG.below q4_ | exact hG.drewN _) :
  Calls Tryz.prog 37 #[.string a0,.int .i64 a1] w fun e w' => ∃ v0_:Value,e = .returned (.tuple #[v0_,.bool r2]) ∧ Kd.R Kd.string 9 w' w.heap.size (fun _ => True) v0_ r1 ∧ Below w.heap.size w w':=by
 have HB:=Aside0.mk (Below.refl w.heap.size w)
 have H:((impl_banksOf.f a0 2).bind fun t517 => (if t517 = 0 then (impl_Listed.j0 k a0 a1 true) else ((impl_within.f a1 0 (wrap64 (t517 - 1))).bind fun t518 => (impl_Listed.j0 k a0 a1 (!t518))))) = some (r1,r2):=h
 clear h
 replace H:=Option.bind_eq_some_iff.mp H
 obtain ⟨t517,A30,H⟩:=H
 have A3:=Aside0.mk A30
 clear A30
 have HC4:=Aside0.mk H
 clear H
 go_enter Tryz.func37,Tryz.ntmps37
 go_upto_region 2 with (first | ((with_reducible refine gate_callee (f:=78) rfl ?_);refine goesL_ (some 12) rfl rfl Tryz.func78 (by kernel_rfl) rfl #[.string a0,.int .i64 2] rfl q46_ ?_;(with_reducible refine (impl_banksOf.calls a0 2 t517 _ A3.out).mono ?_);rintro e w' ⟨rfl,⟨nd,rfl⟩⟩;refine ⟨_,rfl,?_⟩))
 (try simp only [Act.put,List.setIfInBounds_toArray,List.set_cons_zero,List.set_cons_succ])
 go_cut [21] (fun v21 wc => ∃ (kq:Nat) (x21_3:Bool),v21 = .bool x21_3 ∧ Aside0 (impl_Listed.j0 kq a0 a1 x21_3 = some (r1,r2)) ∧ Aside0 (kq ≤ k) ∧ Aside0 (Below w.heap.size w wc))
 case first =>
  have H:=HC4.out
  clear HC4
  by_cases c5:t517 = 0
  ·rw [if_pos c5] at H
   have c5b0:(t517 == 0) = true:=beq_iff_eq.mpr c5
   have c5b1:(t517 != 0) = false:=bne_eq_false_iff_eq.mpr c5
   clear c5
   (first | rw [c5b0] | (simp only [i64_w,i32_w];rw [c5b0]) | skip)
   have H':=Aside0.mk H
   clear H
   go_wp2
   go_meet
   case rel => exact ⟨_,(true),q69_,H',⟨q98_⟩,⟨q50_⟩⟩
  rw [if_neg c5] at H
  have c5b0:(t517 == 0) = false:=beq_eq_false_iff_ne.mpr c5
  have c5b1:(t517 != 0) = true:=bne_iff_ne.mpr c5
  (first | rw [c5b0] | (simp only [i64_w,i32_w];rw [c5b0]) | skip)
  replace H:=Option.bind_eq_some_iff.mp H
  obtain ⟨t518,A60,H⟩:=H
  have A6:=Aside0.mk A60
  clear A60
  have H':=Aside0.mk H
  clear H
  go_wp2_with (first | (go_at_call 61;(with_reducible refine (impl_within.calls a1 0 (wrap64 (t517 - 1)) t518 _ A6.out).mono ?_);rintro e w' ⟨rfl,⟨nd,rfl⟩⟩))
  go_meet
  case rel => exact ⟨_,(!t518),q69_,H',⟨q98_⟩,⟨q50_⟩⟩
 clear HC4
 try clear p2
 try clear c3
 try clear c5
 try clear c5b0
 try clear c5b1
 try clear p6
 obtain ⟨kq,x21_3,rfl,HA,HJ3,HB⟩:=hcut
 cases kq with
 | zero => exact absurd HA.out (by simp [impl_Listed.j0])
 | succ kj3 =>
  have H:=HA.out
  clear HA
  simp only [impl_Listed.j0] at H
  by_cases c7:x21_3 = true
  ·subst c7
   replace H:(some (([]:List ByteArray),false)) = some (r1,r2):=by rw [if_pos rfl] at H;exact H
   simp only [Option.some.injEq,Prod.mk.injEq] at H
   obtain ⟨rfl,rfl⟩:=H
   go_wp2
   go_ret2
   exact ⟨_,q53_,q44_,q50_⟩
  replace c7:=Bool.eq_false_iff.mpr c7
  subst c7
  replace H:(impl_Listed.l0 kj3 a0 a1 (([]:List ByteArray)) (wrap64 (a1 * 256))) = some (r1,r2):=by rw [if_neg (show ¬ (false = true) by decide)] at H;exact H
  obtain ⟨y519,hy519⟩:∃ y_:List ByteArray,y_ = (([]:List ByteArray)):=⟨_,rfl⟩
  replace H:(impl_Listed.l0 kj3 a0 a1 y519 (wrap64 (a1 * 256))) = some (r1,r2):=by first | (rw [hy519];with_reducible exact H) | (have H2_:=(Option.bind_some _ _).symm.trans H;rw [hy519];with_reducible exact H2_) | (have H2_:=(Option.bind_some _ _).symm.trans H;with_reducible exact H2_) | with_reducible exact H | (rw [hy519];exact H) | exact H
  have Ny519:=Aside0.mk hy519
  clear hy519
  have H':=Aside0.mk H
  clear H
  go_wp2_with (first | ((with_reducible refine gate_dst (N:=22) rfl ?_);refine Kd.R_lit Kd.string _ 9 ?hg (N:=22) ?hd (xs:=([]:List ByteArray)) (inner:=[]) (ok:=fun _ => True) (okp:=fun _ => True) ?hr ?hp (fun _ hk => hk) trivial (Below.refl _ _) (Nat.le_refl _) (by simp) ?_;(case hd => rfl);(case hg => rfl);(case hr => exact q114_);(case hp => exact (Reps.none _ _));intro v520 w8 ho9 hb hg_ hnew_;clear hg_ hnew_;(first | rw [← Ny519.out] at ho9 | (simp only [Int.reduceToNat] at ho9;rw [← Ny519.out] at ho9));have n0_:=Aside0.mk (Kd.R_lower ho9 (below_size q50_));have n1_:=Aside0.mk (below_step q50_ hb);clear HB;have HO521:=n0_;have HB:=n1_;clear n0_ n1_;clear hb ho9))
  go_loopg [7,8] kj3 (fun kq v7 v8 w' => ∃ (x7_2:List ByteArray) (x8_2:Int),v8 = .int .i64 x8_2 ∧ Aside0 (impl_Listed.l0 kq a0 a1 x7_2 x8_2 = some (r1,r2)) ∧ Aside0 (kq ≤ kj3) ∧ Aside0 (Kd.R Kd.string 9 w' w.heap.size (fun _ => True) v7 x7_2) ∧ Aside0 (Below w.heap.size w w'))
  case atStart => exact ⟨(y519),(wrap64 (a1 * 256)),q69_,H',⟨Nat.le_refl _⟩,⟨by (with_reducible repeat (first | apply Kd.R_alloc | apply Kd.R_drewN | apply Kd.R_drew));exact HO521.out⟩,⟨q50_⟩⟩
  clear H'
  try clear p2 p2
  try clear c3
  try clear c5
  try clear c5b0
  try clear c5b1
  try clear p6 p6
  try clear c7
  obtain ⟨x7_2,x8_2,rfl,HA,HK2,HO_7,HB⟩:=hrel
  cases gk with
  | zero => exact absurd HA.out (by simp [impl_Listed.l0])
  | succ k2 =>
   have H:=HA.out
   clear HA
   simp only [impl_Listed.l0] at H
   by_cases c10:x8_2 < (wrap64 ((wrap64 (a1 + 1)) * 256))
   ·rw [if_pos c10] at H
    have c10b0:decide (x8_2 < (wrap64 ((wrap64 (a1 + 1)) * 256))) = true:=decide_eq_true c10
    clear c10
    replace H:=Option.bind_eq_some_iff.mp H
    obtain ⟨⟨t522,t523⟩,A110,H⟩:=H
    replace H:(if x7_2.length < 8796093022208 then (impl_Listed.l0 k2 a0 a1 (x7_2 ++ [t522]) (wrap64 (x8_2 + t523))) else (none)) = some (r1,r2):=H
    have A11:=Aside0.mk A110
    clear A110
    by_cases c12:x7_2.length < 8796093022208
    rotate_left
    ·rw [if_neg c12] at H
     exact absurd H (by simp)
    rw [if_pos c12] at H
    have LMc12:=Aside0.mk c12
    clear c12
    obtain ⟨y524,hy524⟩:∃ y_:List ByteArray,y_ = (x7_2 ++ [t522]):=⟨_,rfl⟩
    replace H:(impl_Listed.l0 k2 a0 a1 y524 (wrap64 (x8_2 + t523))) = some (r1,r2):=by first | (rw [hy524];with_reducible exact H) | (have H2_:=(Option.bind_some _ _).symm.trans H;rw [hy524];with_reducible exact H2_) | (have H2_:=(Option.bind_some _ _).symm.trans H;with_reducible exact H2_) | with_reducible exact H | (rw [hy524];exact H) | exact H
    have Ny524:=Aside0.mk hy524
    clear hy524
    have H':=Aside0.mk H
    clear H
    go_wp2_with (first | ((with_reducible refine gate_callee (f:=87) rfl ?_);refine goesL_ (some 33) rfl rfl Tryz.func87 (by kernel_rfl) rfl #[.string a0,.int .i64 x8_2] rfl q46_ ?_;(with_reducible refine (impl_listedAt.calls k2 a0 x8_2 t522 t523 _ A11.out).mono ?_);rintro e w13 ⟨rfl,hb⟩;refine ⟨_,rfl,?_⟩;have n0_:=Aside0.mk (Kd.R_below q83_ hb);have n1_:=Aside0.mk (below_step q50_ hb);clear HO_7;clear HB;have HO_7:=n0_;have HB:=n1_;clear n0_ n1_;(try clear hb)) | ((with_reducible refine gate_builtin (b:=.append) (xs:=#[.tmp 36,.tmp 38]) rfl ?_);at_builtin;refine Kd.R_append Kd.string (w0:=w) w.heap.size rfl (.tmp 36) (.tmp 38) 47 9 (.string ⟨#[]⟩) 16 rfl Tryz.underlying47 info9 rfl (by decide) (by omega) u7 x7_2 t522 [.string t522] (fun _ => True) (fun _ => False) rfl rfl ?aP (fun _ hk => hk.elim) ?aF ?aO ?aB ?aS ?aL ?_;(case aP => exact rfl);(case aB => exact q50_);(case aF => exact (fun _ _ => trivial));(case aO => exact q83_);(case aS => exact (below_size q50_));(case aL => have:=LMc12.out;omega);intro v525 w14 ho hb hg hat;rw [← Ny524.out] at ho;have n0_:=Aside0.mk (hb);have n1_:=Aside0.mk (ho);clear HB;clear HO_7;have HB:=n0_;have HO526:=n1_;clear n0_ n1_;clear ho hb hg hat))
    go_roundg k2
    case measure => have:=HJ3.out;have:=HK2.out;omega
    case rel => exact ⟨(y524),(wrap64 (x8_2 + t523)),q69_,H',⟨by have:=HJ3.out;have:=HK2.out;omega⟩,⟨by (with_reducible repeat (first | apply Kd.R_alloc | apply Kd.R_drewN | apply Kd.R_drew));exact HO526.out⟩,⟨q50_⟩⟩
   rw [if_neg c10] at H
   have c10b0:decide (x8_2 < (wrap64 ((wrap64 (a1 + 1)) * 256))) = false:=decide_eq_false c10
   clear c10
   simp only [Option.some.injEq,Prod.mk.injEq] at H
   obtain ⟨rfl,rfl⟩:=H
   go_wp2
   go_ret2
   exact ⟨_,q53_,q83_,q50_⟩
def laws_eqStringS.l0:Nat → List ByteArray → List ByteArray → Int → Option (Bool)
 | 0,_,_,_ => none
 | k + 1,x0,x1,x5 => if x5 < (x0.length:Int) then (if 0 ≤ x5 then (if x5 < (x1.length:Int) then (if (rdOf ByteArray.empty x0 x5).toList = (rdOf ByteArray.empty x1 x5).toList then (laws_eqStringS.l0 k x0 x1 (wrap64 (x5 + 1))) else (some false)) else (none)) else (none)) else (some true)
def laws_eqStringS.f (k:Nat) (l0:List ByteArray) (l1:List ByteArray):Option (Bool):=if (l0.length:Int) = (l1.length:Int) then (laws_eqStringS.l0 k l0 l1 0) else (some false)
theorem laws_eqStringS.mono_l:∀ k,(∀ y0 y1 y2,LeO (laws_eqStringS.l0 k y0 y1 y2) (laws_eqStringS.l0 (k + 1) y0 y1 y2))
 | 0 => fun _ _ _ r h => by simp [laws_eqStringS.l0] at h
 | k + 1 => by
  have ih0:=laws_eqStringS.mono_l k
  intro y0 y1 y2
  unfold laws_eqStringS.l0
  repeat' first
  | (with_reducible first | exact ih0 _ _ _ | exact LeO.refl _ | exact LeO.none _ | refine LeO.ite ?_ ?_ | refine LeO.bind ?_ (fun _ => ?_))
  | exact ih0 _ _ _
  | exact LeO.none _
  | refine LeO.ite ?_ ?_
  | refine LeO.bind ?_ (fun _ => ?_)
theorem laws_eqStringS.mono:∀ a0 a1 k,LeO (laws_eqStringS.f k a0 a1) (laws_eqStringS.f (k + 1) a0 a1):=by
 intro a0 a1 k
 have ih0:=laws_eqStringS.mono_l k
 unfold laws_eqStringS.f
 repeat' first
   | (with_reducible first | exact ih0 _ _ _ | exact LeO.refl _ | exact LeO.none _ | refine LeO.ite ?_ ?_ | refine LeO.bind ?_ (fun _ => ?_))
   | exact ih0 _ _ _
   | exact LeO.none _
   | refine LeO.ite ?_ ?_
   | refine LeO.bind ?_ (fun _ => ?_)
theorem laws_eqStringS.calls (k:Nat) (A0:Option Addr) (c0:Nat) (l0:List ByteArray) (A1:Option Addr) (c1:Nat) (l1:List ByteArray) (r:Bool) (w:World) (hr0:Kd.C Kd.string w A0 l0.length l0) (hc0:l0.length ≤ c0) (hr1:Kd.C Kd.string w A1 l1.length l1) (hc1:l1.length ≤ c1) (h:laws_eqStringS.f k l0 l1 = some r) :
  Calls Tryz.prog 38 #[.slice A0 l0.length c0,.slice A1 l1.length c1] w fun e w' => e = .returned (.bool r) ∧ Drawn0 w w':=by
 have HR0:=Aside0.mk hr0
 have HC0:=Aside0.mk hc0
 clear hr0 hc0
 have HR1:=Aside0.mk hr1
 have HC1:=Aside0.mk hc1
 clear hr1 hc1
 have H:(if (l0.length:Int) = (l1.length:Int) then (laws_eqStringS.l0 k l0 l1 0) else (some false)) = some r:=h
 clear h
 by_cases c3:(l0.length:Int) = (l1.length:Int)
 ·rw [if_pos c3] at H
  have c3b0:((l0.length:Int) == (l1.length:Int)) = true:=beq_iff_eq.mpr c3
  have c3b1:((l0.length:Int) != (l1.length:Int)) = false:=bne_eq_false_iff_eq.mpr c3
  have c3b2:(l0.length == l1.length) = true:=by first | simpa using c3 | (simp at c3 ⊢;omega)
  clear c3
  have H':=Aside0.mk H
  clear H
  go_enter Tryz.func38,Tryz.ntmps38
  go_wp2
  repeat (go_quiet (fail);try go_wp2)
  go_loopg [5] k (fun kq v5 w' => ∃ (x5_1:Int),v5 = .int .i64 x5_1 ∧ Aside0 (laws_eqStringS.l0 kq l0 l1 x5_1 = some r) ∧ Aside0 (kq ≤ k) ∧ Drawn0 w w')
  case atStart => exact ⟨(0),q69_,H',⟨Nat.le_refl _⟩,q85_⟩
  clear H'
  try clear c1
  try clear p2
  try clear c3
  try clear c3b0
  try clear c3b1
  try clear c3b2
  obtain ⟨x5_1,rfl,HA,HK1,⟨m1,rfl⟩⟩:=hrel
  cases gk with
  | zero => exact absurd HA.out (by simp [laws_eqStringS.l0])
  | succ k1 =>
   have H:=HA.out
   clear HA
   simp only [laws_eqStringS.l0] at H
   by_cases c4:x5_1 < (l0.length:Int)
   ·rw [if_pos c4] at H
    have c4b0:decide (x5_1 < (l0.length:Int)) = true:=decide_eq_true c4
    clear c4
    by_cases c5:0 ≤ x5_1
    rotate_left
    ·rw [if_neg c5] at H
     exact absurd H (by simp)
    rw [if_pos c5] at H
    have c5b0:decide (0 ≤ x5_1) = true:=decide_eq_true c5
    clear c5
    by_cases c6:x5_1 < (l1.length:Int)
    rotate_left
    ·rw [if_neg c6] at H
     exact absurd H (by simp)
    rw [if_pos c6] at H
    have c6b0:decide (x5_1 < (l1.length:Int)) = true:=decide_eq_true c6
    clear c6
    by_cases c7:(rdOf ByteArray.empty l0 x5_1).toList = (rdOf ByteArray.empty l1 x5_1).toList
    ·rw [if_pos c7] at H
     have c7b0:((rdOf ByteArray.empty l0 x5_1).toList == (rdOf ByteArray.empty l1 x5_1).toList) = true:=beq_iff_eq.mpr c7
     have c7b1:((rdOf ByteArray.empty l0 x5_1).toList != (rdOf ByteArray.empty l1 x5_1).toList) = false:=bne_eq_false_iff_eq.mpr c7
     clear c7
     have H':=Aside0.mk H
     clear H
     have p527:0 ≤ (x5_1:Int):=of_decide_eq_true q86_
     have q527:x5_1 < (l0.length:Int):=of_decide_eq_true q86_
     obtain ⟨ad527,e527,hx527_0⟩:=Kd.at_string HR0.out x5_1 p527 q527
     cases e527
     replace p527:=eq_true p527
     replace q527:=eq_true q527
     have p528:0 ≤ (x5_1:Int):=of_decide_eq_true q86_
     have q528:x5_1 < (l1.length:Int):=of_decide_eq_true q86_
     obtain ⟨ad528,e528,hx528_0⟩:=Kd.at_string HR1.out x5_1 p528 q528
     cases e528
     replace p528:=eq_true p528
     replace q528:=eq_true q528
     go_wp2
     repeat (go_quiet (fail);try go_wp2)
     go_roundg k1
     case measure => have:=HK1.out;omega
     case rel => exact ⟨(wrap64 (x5_1 + 1)),q69_,H',⟨by have:=HK1.out;omega⟩,q85_⟩
    rw [if_neg c7] at H
    have c7b0:((rdOf ByteArray.empty l0 x5_1).toList == (rdOf ByteArray.empty l1 x5_1).toList) = false:=beq_eq_false_iff_ne.mpr c7
    have c7b1:((rdOf ByteArray.empty l0 x5_1).toList != (rdOf ByteArray.empty l1 x5_1).toList) = true:=bne_iff_ne.mpr c7
    obtain rfl:=Option.some.inj H
    have p527:0 ≤ (x5_1:Int):=of_decide_eq_true q86_
    have q527:x5_1 < (l0.length:Int):=of_decide_eq_true q86_
    obtain ⟨ad527,e527,hx527_0⟩:=Kd.at_string HR0.out x5_1 p527 q527
    cases e527
    replace p527:=eq_true p527
    replace q527:=eq_true q527
    have p528:0 ≤ (x5_1:Int):=of_decide_eq_true q86_
    have q528:x5_1 < (l1.length:Int):=of_decide_eq_true q86_
    obtain ⟨ad528,e528,hx528_0⟩:=Kd.at_string HR1.out x5_1 p528 q528
    cases e528
    replace p528:=eq_true p528
    replace q528:=eq_true q528
    go_wp2
    repeat (go_quiet (fail);try go_wp2)
    go_ret
    exact ⟨q69_,q85_⟩
   rw [if_neg c4] at H
   have c4b0:decide (x5_1 < (l0.length:Int)) = false:=decide_eq_false c4
   clear c4
   obtain rfl:=Option.some.inj H
   go_wp2
   repeat (go_quiet (fail);try go_wp2)
   go_ret
   exact ⟨q69_,q85_⟩
 rw [if_neg c3] at H
 have c3b0:((l0.length:Int) == (l1.length:Int)) = false:=beq_eq_false_iff_ne.mpr c3
 have c3b1:((l0.length:Int) != (l1.length:Int)) = true:=bne_iff_ne.mpr c3
 have c3b2:(l0.length == l1.length) = false:=by first | simpa using c3 | (simp at c3 ⊢;omega)
 obtain rfl:=Option.some.inj H
 go_enter Tryz.func38,Tryz.ntmps38
 go_wp2
 repeat (go_quiet (fail);try go_wp2)
 go_ret
 exact ⟨q69_,q85_⟩
def laws_markText.l0:Nat → Int → ByteArray → Option (ByteArray)
 | 0,_,_ => none
 | k + 1,x0,x3 => if x0 > 0 then ((some (([(wrap64 (48 + (Int.tmod x0 10))) % 256]:List Int):List Int)).bind fun y529 => (if (strOfNums y529).size + x3.size ≤ 9223372036854775807 then (laws_markText.l0 k (wrap64 (Int.tdiv x0 10)) ((strOfNums y529) ++ x3)) else (none))) else (if 1 + x3.size ≤ 9223372036854775807 then (some ((⟨#[109]⟩:ByteArray) ++ x3)) else (none))
def laws_markText.f (k:Nat) (a0:Int):Option (ByteArray):=if a0 ≤ 0 then (some (⟨#[109,48]⟩:ByteArray)) else (laws_markText.l0 k a0 (⟨#[]⟩:ByteArray))
theorem laws_markText.mono_l:∀ k,(∀ y0 y1,LeO (laws_markText.l0 k y0 y1) (laws_markText.l0 (k + 1) y0 y1))
 | 0 => fun _ _ r h => by simp [laws_markText.l0] at h
 | k + 1 => by
  have ih0:=laws_markText.mono_l k
  intro y0 y1
  unfold laws_markText.l0
  repeat' first
  | (with_reducible first | exact ih0 _ _ | exact LeO.refl _ | exact LeO.none _ | refine LeO.ite ?_ ?_ | refine LeO.bind ?_ (fun _ => ?_))
  | exact ih0 _ _
  | exact LeO.none _
  | refine LeO.ite ?_ ?_
  | refine LeO.bind ?_ (fun _ => ?_)
theorem laws_markText.mono:∀ a0 k,LeO (laws_markText.f k a0) (laws_markText.f (k + 1) a0):=by
 intro a0 k
 have ih0:=laws_markText.mono_l k
 unfold laws_markText.f
 repeat' first
   | (with_reducible first | exact ih0 _ _ | exact LeO.refl _ | exact LeO.none _ | refine LeO.ite ?_ ?_ | refine LeO.bind ?_ (fun _ => ?_))
   | exact ih0 _ _
   | exact LeO.none _
   | refine LeO.ite ?_ ?_
   | refine LeO.bind ?_ (fun _ => ?_)
theorem laws_markText.calls (k:Nat) (a0:Int) (r:ByteArray) (w:World) (h:laws_markText.f k a0 = some r) :
  Calls Tryz.prog 88 #[.int .i64 a0] w fun e w' => e = .returned (.string r) ∧ Below w.heap.size w w':=by
 have HB:=Aside0.mk (Below.refl w.heap.size w)
 have H:(if a0 ≤ 0 then (some (⟨#[109,48]⟩:ByteArray)) else (laws_markText.l0 k a0 (⟨#[]⟩:ByteArray))) = some r:=h
 clear h
 by_cases c2:a0 ≤ 0
 ·rw [if_pos c2] at H
  have c2b0:decide (a0 ≤ 0) = true:=decide_eq_true c2
  clear c2
  obtain rfl:=Option.some.inj H
  go_enter Tryz.func88,Tryz.ntmps88
  go_wp2
  go_ret
  exact ⟨q53_,q50_⟩
 rw [if_neg c2] at H
 have c2b0:decide (a0 ≤ 0) = false:=decide_eq_false c2
 clear c2
 have H':=Aside0.mk H
 clear H
 go_enter Tryz.func88,Tryz.ntmps88
 go_wp2
 go_loopg [0,3] k (fun kq v0 v3 w' => ∃ (x0_1:Int) (x3_1:ByteArray),v0 = .int .i64 x0_1 ∧ v3 = .string x3_1 ∧ Aside0 (laws_markText.l0 kq x0_1 x3_1 = some r) ∧ Aside0 (kq ≤ k) ∧ Aside0 (Below w.heap.size w w'))
 case atStart => exact ⟨(a0),((⟨#[]⟩:ByteArray)),q69_,q69_,H',⟨Nat.le_refl _⟩,⟨q50_⟩⟩
 clear H'
 try clear c2
 try clear c2b0
 try clear p2
 obtain ⟨x0_1,x3_1,rfl,rfl,HA,HK1,HB⟩:=hrel
 cases gk with
 | zero => exact absurd HA.out (by simp [laws_markText.l0])
 | succ k1 =>
  have H:=HA.out
  clear HA
  simp only [laws_markText.l0] at H
  by_cases c3:x0_1 > 0
  ·rw [if_pos c3] at H
   have c3b0:decide (0 < x0_1) = true:=decide_eq_true c3
   clear c3
   obtain ⟨y529,hy529⟩:∃ y_:List Int,y_ = (([(wrap64 (48 + (Int.tmod x0_1 10))) % 256]:List Int)):=⟨_,rfl⟩
   replace H:(if (strOfNums y529).size + x3_1.size ≤ 9223372036854775807 then (laws_markText.l0 k1 (wrap64 (Int.tdiv x0_1 10)) ((strOfNums y529) ++ x3_1)) else (none)) = some r:=by first | (rw [hy529];with_reducible exact H) | (have H2_:=(Option.bind_some _ _).symm.trans H;rw [hy529];with_reducible exact H2_) | (have H2_:=(Option.bind_some _ _).symm.trans H;with_reducible exact H2_) | with_reducible exact H | (rw [hy529];exact H) | exact H
   have Ny529:=Aside0.mk hy529
   clear hy529
   by_cases c4:(strOfNums y529).size + x3_1.size ≤ 9223372036854775807
   rotate_left
   ·rw [if_neg c4] at H
    exact absurd H (by simp)
   rw [if_pos c4] at H
   have c4b0:=eq_true c4
   have c4b1:decide ((strOfNums y529).size + x3_1.size ≤ 9223372036854775807) = true:=decide_eq_true c4
   try have c4b2:(9223372036854775807 < (strOfNums y529).size + x3_1.size) = False:=eq_false (Nat.not_lt.2 c4)
   have H':=Aside0.mk H
   clear H
   go_wp2_with (first | ((with_reducible refine gate_dst (N:=12) rfl ?_);refine Kd.R_lit (Kd.int .u8) _ 5 ?hg (N:=12) ?hd (xs:=([(wrap64 (48 + (Int.tmod x0_1 10))) % 256]:List Int)) (inner:=[.int .u8 ((wrap64 (48 + (Int.tmod x0_1 10))) % 256)]) (ok:=fun _ => True) (okp:=fun _ => True) ?hr ?hp (fun _ hk => hk) trivial (Below.refl _ _) (Nat.le_refl _) (by simp) ?_;(case hd => rfl);(case hg => rfl);(case hr => exact q114_);(case hp => exact q111_);intro v530 w5 ho6 hb hg_ hnew_;clear hg_ hnew_;(first | rw [← Ny529.out] at ho6 | (simp only [Int.reduceToNat] at ho6;rw [← Ny529.out] at ho6));have n0_:=Aside0.mk (Kd.R_lower ho6 (below_size q50_));have n1_:=Aside0.mk (below_step q50_ hb);clear HB;have HO531:=n0_;have HB:=n1_;clear n0_ n1_;clear hb ho6;have hcv7:=own_string (P:=Tryz.prog) Tryz.underlying22 Tryz.underlying5 Tryz.underlying9 (Kd.own_of_R HO531.out);have hcvq7:=fun m_:Nat => own_string (P:=Tryz.prog) Tryz.underlying22 Tryz.underlying5 Tryz.underlying9 (Kd.own_of_R (Kd.R_drewN HO531.out m_))))
   go_roundg k1
   case measure => have:=HK1.out;omega
   case rel => exact ⟨(wrap64 (Int.tdiv x0_1 10)),((strOfNums y529) ++ x3_1),q69_,q69_,H',⟨by have:=HK1.out;omega⟩,⟨q50_⟩⟩
  rw [if_neg c3] at H
  have c3b0:decide (0 < x0_1) = false:=decide_eq_false c3
  clear c3
  by_cases c8:1 + x3_1.size ≤ 9223372036854775807
  rotate_left
  ·rw [if_neg c8] at H
   exact absurd H (by simp)
  rw [if_pos c8] at H
  have c8b0:=eq_true c8
  have c8b1:decide (1 + x3_1.size ≤ 9223372036854775807) = true:=decide_eq_true c8
  try have c8b2:(9223372036854775807 < 1 + x3_1.size) = False:=eq_false (Nat.not_lt.2 c8)
  obtain rfl:=Option.some.inj H
  go_wp2
  go_ret
  exact ⟨q53_,q50_⟩
end Go.Proofs.YtodlnnoekccmmaaGreatDoor.QFnExactListed
