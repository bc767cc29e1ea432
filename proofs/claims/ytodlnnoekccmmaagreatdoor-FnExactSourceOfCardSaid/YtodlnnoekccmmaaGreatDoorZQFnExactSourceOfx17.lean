/- The machine's side of a law,written by a program of this session for this claim. -/
import Derived.Test.YtodlnnoekccmmaaGreatDoorZQq
import Derived.Test.YtodlnnoekccmmaaGreatDoorZQFnExactSourceOfx0
import Derived.Test.YtodlnnoekccmmaaGreatDoorZQFnExactSourceOfx9
import Derived.Test.YtodlnnoekccmmaaGreatDoorZQFnExactSourceOfx12
import Derived.Test.YtodlnnoekccmmaaGreatDoorZQFnExactSourceOfx14
import Derived.Test.YtodlnnoekccmmaaGreatDoorZQFnExactSourceOfx15
import Derived.Test.YtodlnnoekccmmaaGreatDoorZQFnExactSourceOfx16
namespace Go.Proofs.YtodlnnoekccmmaaGreatDoor.QFnExactSourceOf
open Go.Proofs.YtodlnnoekccmmaaGreatDoor.Qq
open Go.RowKit Go.Proofs.YtodlnnoekccmmaaGreatDoor.LibX Go.Proofs.YtodlnnoekccmmaaGreatDoor.LibE Go.Proofs.YtodlnnoekccmmaaGreatDoorW.PrintWords Go.Proofs.YtodlnnoekccmmaaGreatDoorW.PrintLast Go.Proofs.YtodlnnoekccmmaaGreatDoorW.PrintMore
attribute [local go_sem] max2_int min2_int max_two min_two max_three min_three max_four min_four   -- for this text's walks alone
set_option maxHeartbeats 8000000
set_option maxRecDepth 100000
set_option linter.unusedVariables false
set_option linter.unusedSimpArgs false
def strings_HasPrefix.f (a0:ByteArray) (a1:ByteArray):Option (Bool):=(stringslite_HasPrefix.f a0 a1).bind fun t511 => (some t511)
theorem strings_HasPrefix.calls (a0:ByteArray) (a1:ByteArray) (r:Bool) (w:World) (h:strings_HasPrefix.f a0 a1 = some r) :
  Calls Tryz.prog 117 #[.string a0,.string a1] w fun e w' => e = .returned (.bool r) ∧ Drawn0 w w':=by
 have H:((stringslite_HasPrefix.f a0 a1).bind fun t511 => (some t511)) = some r:=h
 clear h
 replace H:=Option.bind_eq_some_iff.mp H
 obtain ⟨t511,A30,H⟩:=H
 have A3:=Aside0.mk A30
 clear A30
 obtain rfl:=Option.some.inj H
 go_enter Tryz.func117,Tryz.ntmps117
 go_wp2_with (first | ((with_reducible refine gate_callee (f:=145) rfl ?_);refine goesL_ (some 7) rfl rfl Tryz.func145 (by kernel_rfl) rfl #[.string a0,.string a1] rfl q45_ ?_;(with_reducible refine (stringslite_HasPrefix.calls a0 a1 t511 _ A3.out).mono ?_);rintro e w' ⟨rfl,⟨nd,rfl⟩⟩;refine ⟨_,rfl,?_⟩))
 go_ret
 exact ⟨q65_,q82_⟩
mutual
def impl_listedAt.j1:Nat → ByteArray → Int → Int → Option (ByteArray × Int)
 | 0,_,_,_ => none
 | k + 1,x0,x1,x7 => if x7 ≥ 4 then ((impl_decimal.f x7).bind fun t512 => (if 3 + t512.size ≤ 9223372036854775807 then (some ((⟨#[100,115,32]⟩:ByteArray) ++ t512,x7)) else (none))) else (if 0 ≤ x1 then (if x1 < (x0.size:Int) then ((impl_HexOf.f k (wrap64 (bt x0 x1)) 2).bind fun t513 => (if 3 + t513.size ≤ 9223372036854775807 then ((impl_inBank.f k x0 x1).bind fun bt514 => (if bt514.2.2.2 = 0 then (some ((⟨#[100,98,32]⟩:ByteArray) ++ t513,1)) else ((impl_TemplateOf.f k bt514.1 bt514.2.1).bind fun t519 => ((strings_HasPrefix.f t519 (⟨#[106,114,32]⟩:ByteArray)).bind fun t520 => (if t520 = true then ((impl_jumps.f k bt514.1 bt514.2.1 bt514.2.2.1 x1).bind fun bt522 => ((impl_isWord.f bt522.1).bind fun t524 => (if t524 = true then ((impl_HexOf.f k bt522.1 4).bind fun t525 => ((strings_Replace.f t519 (⟨#[101,56]⟩:ByteArray) t525 1).bind fun t526 => (some (t526,bt514.2.2.2)))) else (some ((⟨#[100,98,32]⟩:ByteArray) ++ t513,1))))) else ((impl_InsText.f k bt514.1 bt514.2.1 bt514.2.2.1).bind fun t521 => (some (t521,bt514.2.2.2)))))))) else (none))) else (none)) else (none))
def impl_listedAt.l0:Nat → ByteArray → Int → Int → Int → Option (ByteArray × Int)
 | 0,_,_,_,_ => none
 | k + 1,x0,x1,x6,x7 => if (wrap64 (x1 + x7)) < x6 then (if 0 ≤ (wrap64 (x1 + x7)) then (if (wrap64 (x1 + x7)) < (x0.size:Int) then (if (bt x0 (wrap64 (x1 + x7))) = 0 then (impl_listedAt.l0 k x0 x1 x6 (wrap64 (x7 + 1))) else (impl_listedAt.j1 k x0 x1 x7)) else (none)) else (none)) else (impl_listedAt.j1 k x0 x1 x7)
end
def impl_listedAt.f (k:Nat) (a0:ByteArray) (a1:Int):Option (ByteArray × Int):=impl_listedAt.l0 k a0 a1 (wrap64 ((wrap64 ((wrap64 (Int.tdiv a1 256)) + 1)) * 256)) 0
theorem impl_listedAt.mono_l:∀ k,(∀ y0 y1 y2,LeO (impl_listedAt.j1 k y0 y1 y2) (impl_listedAt.j1 (k + 1) y0 y1 y2)) ∧ (∀ y0 y1 y2 y3,LeO (impl_listedAt.l0 k y0 y1 y2 y3) (impl_listedAt.l0 (k + 1) y0 y1 y2 y3))
 | 0 => ⟨fun _ _ _ r h => by simp [impl_listedAt.j1] at h,fun _ _ _ _ r h => by simp [impl_listedAt.l0] at h⟩
 | k + 1 => by
  obtain ⟨ih0,ih1⟩:=impl_listedAt.mono_l k
  refine ⟨?_,?_⟩
  ·intro y0 y1 y2
   unfold impl_listedAt.j1
   repeat' first
   | (with_reducible first | exact ih0 _ _ _ | exact ih1 _ _ _ _ | exact impl_HexOf.mono _ _ _ | exact impl_InsText.mono _ _ _ _ | exact impl_TemplateOf.mono _ _ _ | exact impl_inBank.mono _ _ _ | exact impl_jumps.mono _ _ _ _ _ | exact LeO.refl _ | exact LeO.none _ | refine LeO.ite ?_ ?_ | refine LeO.bind ?_ (fun _ => ?_))
   | exact ih0 _ _ _
   | exact ih1 _ _ _ _
   | exact impl_HexOf.mono _ _ _
   | exact impl_InsText.mono _ _ _ _
   | exact impl_TemplateOf.mono _ _ _
   | exact impl_inBank.mono _ _ _
   | exact impl_jumps.mono _ _ _ _ _
   | exact LeO.none _
   | refine LeO.ite ?_ ?_
   | refine LeO.bind ?_ (fun _ => ?_)
  intro y0 y1 y2 y3
  unfold impl_listedAt.l0
  repeat' first
  | (with_reducible first | exact ih0 _ _ _ | exact ih1 _ _ _ _ | exact impl_HexOf.mono _ _ _ | exact impl_InsText.mono _ _ _ _ | exact impl_TemplateOf.mono _ _ _ | exact impl_inBank.mono _ _ _ | exact impl_jumps.mono _ _ _ _ _ | exact LeO.refl _ | exact LeO.none _ | refine LeO.ite ?_ ?_ | refine LeO.bind ?_ (fun _ => ?_))
  | exact ih0 _ _ _
  | exact ih1 _ _ _ _
  | exact impl_HexOf.mono _ _ _
  | exact impl_InsText.mono _ _ _ _
  | exact impl_TemplateOf.mono _ _ _
  | exact impl_inBank.mono _ _ _
  | exact impl_jumps.mono _ _ _ _ _
  | exact LeO.none _
  | refine LeO.ite ?_ ?_
  | refine LeO.bind ?_ (fun _ => ?_)
theorem impl_listedAt.mono:∀ a0 a1 k,LeO (impl_listedAt.f k a0 a1) (impl_listedAt.f (k + 1) a0 a1):=by
 intro a0 a1 k
 obtain ⟨ih0,ih1⟩:=impl_listedAt.mono_l k
 unfold impl_listedAt.f
 repeat' first
   | (with_reducible first | exact ih0 _ _ _ | exact ih1 _ _ _ _ | exact impl_HexOf.mono _ _ _ | exact impl_InsText.mono _ _ _ _ | exact impl_TemplateOf.mono _ _ _ | exact impl_inBank.mono _ _ _ | exact impl_jumps.mono _ _ _ _ _ | exact LeO.refl _ | exact LeO.none _ | refine LeO.ite ?_ ?_ | refine LeO.bind ?_ (fun _ => ?_))
   | exact ih0 _ _ _
   | exact ih1 _ _ _ _
   | exact impl_HexOf.mono _ _ _
   | exact impl_InsText.mono _ _ _ _
   | exact impl_TemplateOf.mono _ _ _
   | exact impl_inBank.mono _ _ _
   | exact impl_jumps.mono _ _ _ _ _
   | exact LeO.none _
   | refine LeO.ite ?_ ?_
   | refine LeO.bind ?_ (fun _ => ?_)
theorem impl_listedAt.calls (k:Nat) (a0:ByteArray) (a1:Int) (r1:ByteArray) (r2:Int) (w:World) (h:impl_listedAt.f k a0 a1 = some (r1,r2)) (hG:Go.Proofs.YtodlnnoekccmmaaGreatDoor.LibW.GL w:=by first | exact hG | exact hG.below q4_ | exact hG.drewN _) :
  Calls Tryz.prog 87 #[.string a0,.int .i64 a1] w fun e w' => e = .returned (.tuple #[.string r1,.int .i64 r2]) ∧ Below w.heap.size w w':=by
 have hu30:=Tryz.underlying30
 have HB:=Aside0.mk (Below.refl w.heap.size w)
 have H:(impl_listedAt.l0 k a0 a1 (wrap64 ((wrap64 ((wrap64 (Int.tdiv a1 256)) + 1)) * 256)) 0) = some (r1,r2):=h
 clear h
 have HC3:=Aside0.mk H
 clear H
 go_enter Tryz.func87,Tryz.ntmps87
 go_upto_block 0 with (fail)
 go_cut [7] (fun v7 wc => ∃ (kq:Nat) (x7_2:Int),v7 = .int .i64 x7_2 ∧ Aside0 (impl_listedAt.j1 kq a0 a1 x7_2 = some (r1,r2)) ∧ Aside0 (kq ≤ k) ∧ Aside0 (Below w.heap.size w wc))
 case first =>
  have H:=HC3.out
  clear HC3
  have H':=Aside0.mk H
  clear H
  go_wp2
  go_loopg [7] k (fun kq v7 w' => ∃ (x7_1:Int),v7 = .int .i64 x7_1 ∧ Aside0 (impl_listedAt.l0 kq a0 a1 (wrap64 ((wrap64 ((wrap64 (Int.tdiv a1 256)) + 1)) * 256)) x7_1 = some (r1,r2)) ∧ Aside0 (kq ≤ k) ∧ Aside0 (Below w.heap.size w w'))
  case atStart => exact ⟨(0),q65_,H',⟨Nat.le_refl _⟩,⟨q46_⟩⟩
  clear H'
  try clear p2
  obtain ⟨x7_1,rfl,HA,HK1,HB⟩:=hrel
  cases gk with
  | zero => exact absurd HA.out (by simp [impl_listedAt.l0])
  | succ k1 =>
   have H:=HA.out
   clear HA
   simp only [impl_listedAt.l0] at H
   by_cases c4:(wrap64 (a1 + x7_1)) < (wrap64 ((wrap64 ((wrap64 (Int.tdiv a1 256)) + 1)) * 256))
   ·rw [if_pos c4] at H
    have c4b0:decide ((wrap64 (a1 + x7_1)) < (wrap64 ((wrap64 ((wrap64 (Int.tdiv a1 256)) + 1)) * 256))) = true:=decide_eq_true c4
    clear c4
    (first | rw [c4b0] | (simp only [i64_w,i32_w];rw [c4b0]) | skip)
    obtain ⟨ji5,hji5⟩:∃ j_:Int,(wrap64 (a1 + x7_1)) = j_:=⟨_,rfl⟩
    replace H:(if 0 ≤ (ji5) then (if (ji5) < (a0.size:Int) then (if (bt a0 (ji5)) = 0 then (impl_listedAt.l0 k1 a0 a1 (wrap64 ((wrap64 ((wrap64 (Int.tdiv a1 256)) + 1)) * 256)) (wrap64 (x7_1 + 1))) else (impl_listedAt.j1 k1 a0 a1 x7_1)) else (none)) else (none)) = some (r1,r2):=by first | (rw [hji5] at H;exact H) | (simp only [hji5] at H ⊢;exact H)
    (try rw [hji5] at c4b0)
    have hji5w:(IntKind.i64.wrap (a1 + x7_1)) = ji5:=(i64_w _).trans hji5
    by_cases c6:0 ≤ (ji5)
    rotate_left
    ·rw [if_neg c6] at H
     exact absurd H (by simp)
    rw [if_pos c6] at H
    have c6b0:decide (0 ≤ (ji5)) = true:=decide_eq_true c6
    clear c6
    by_cases c7:(ji5) < (a0.size:Int)
    rotate_left
    ·rw [if_neg c7] at H
     exact absurd H (by simp)
    rw [if_pos c7] at H
    have c7b0:decide ((ji5) < (a0.size:Int)) = true:=decide_eq_true c7
    clear c7
    by_cases c9:(bt a0 (ji5)) = 0
    ·rw [if_pos c9] at H
     have c9b0:((bt a0 (ji5)) == 0) = true:=beq_iff_eq.mpr c9
     have c9b1:((bt a0 (ji5)) != 0) = false:=bne_eq_false_iff_eq.mpr c9
     clear c9
     have H':=Aside0.mk H
     clear H
     have p8:0 ≤ ((ji5):Int):=of_decide_eq_true q84_
     have q8:(ji5) < (a0.size:Int):=of_decide_eq_true q84_
     have hx8:=bt_at a0 (ji5)
     replace p8:=eq_true p8
     replace q8:=eq_true q8
     go_wp2
     go_roundg k1
     case measure => have:=HK1.out;omega
     case rel => exact ⟨(wrap64 (x7_1 + 1)),q65_,q64_,⟨by have:=HK1.out;omega⟩,⟨q46_⟩⟩
    rw [if_neg c9] at H
    have c9b0:((bt a0 (ji5)) == 0) = false:=beq_eq_false_iff_ne.mpr c9
    have c9b1:((bt a0 (ji5)) != 0) = true:=bne_iff_ne.mpr c9
    have H':=Aside0.mk H
    clear H
    have p8:0 ≤ ((ji5):Int):=of_decide_eq_true q84_
    have q8:(ji5) < (a0.size:Int):=of_decide_eq_true q84_
    have hx8:=bt_at a0 (ji5)
    replace p8:=eq_true p8
    replace q8:=eq_true q8
    go_wp2
    go_meet
    case rel => exact ⟨_,(x7_1),q65_,q64_,⟨q83_⟩,⟨q46_⟩⟩
   rw [if_neg c4] at H
   have c4b0:decide ((wrap64 (a1 + x7_1)) < (wrap64 ((wrap64 ((wrap64 (Int.tdiv a1 256)) + 1)) * 256))) = false:=decide_eq_false c4
   clear c4
   (first | rw [c4b0] | (simp only [i64_w,i32_w];rw [c4b0]) | skip)
   have H':=Aside0.mk H
   clear H
   go_wp2
   go_meet
   case rel => exact ⟨_,(x7_1),q65_,H',⟨q83_⟩,⟨q46_⟩⟩
 clear HC3
 try clear p2 p2
 try clear c4
 try clear c4b0
 try clear c6
 try clear c6b0
 try clear p6
 try clear c7
 try clear c7b0
 try clear c8
 try clear p8 p8
 try clear q8 q8
 try clear hx8
 try clear c9
 try clear c9b0
 try clear c9b1
 obtain ⟨kq,x7_2,rfl,HA,HJ2,HB⟩:=hcut
 cases kq with
 | zero => exact absurd HA.out (by simp [impl_listedAt.j1])
 | succ kj2 =>
  have H:=HA.out
  clear HA
  simp only [impl_listedAt.j1] at H
  by_cases c10:x7_2 ≥ 4
  ·rw [if_pos c10] at H
   have c10b0:decide (4 ≤ x7_2) = true:=decide_eq_true c10
   clear c10
   replace H:=Option.bind_eq_some_iff.mp H
   obtain ⟨t512,A110,H⟩:=H
   have A11:=Aside0.mk A110
   clear A110
   by_cases c12:3 + t512.size ≤ 9223372036854775807
   rotate_left
   ·rw [if_neg c12] at H
    exact absurd H (by simp)
   rw [if_pos c12] at H
   have c12b0:=eq_true c12
   have c12b1:decide (3 + t512.size ≤ 9223372036854775807) = true:=decide_eq_true c12
   try have c12b2:(9223372036854775807 < 3 + t512.size) = False:=eq_false (Nat.not_lt.2 c12)
   simp only [Option.some.injEq,Prod.mk.injEq] at H
   obtain ⟨rfl,rfl⟩:=H
   go_wp2_with (first | ((with_reducible refine gate_callee (f:=89) rfl ?_);refine goesL_ (some 35) rfl rfl Tryz.func89 (by kernel_rfl) rfl #[.int .i64 x7_2] rfl q45_ ?_;(with_reducible refine (impl_decimal.calls x7_2 t512 _ A11.out).mono ?_);rintro e w13 ⟨rfl,hb⟩;refine ⟨_,rfl,?_⟩;replace HB:=Aside0.mk (below_step q46_ hb);(try clear hb)))
   go_ret2
   exact ⟨q49_,q46_⟩
  rw [if_neg c10] at H
  have c10b0:decide (4 ≤ x7_2) = false:=decide_eq_false c10
  clear c10
  by_cases c14:0 ≤ a1
  rotate_left
  ·rw [if_neg c14] at H
   exact absurd H (by simp)
  rw [if_pos c14] at H
  have c14b0:decide (0 ≤ a1) = true:=decide_eq_true c14
  clear c14
  by_cases c15:a1 < (a0.size:Int)
  rotate_left
  ·rw [if_neg c15] at H
   exact absurd H (by simp)
  rw [if_pos c15] at H
  have c15b0:decide (a1 < (a0.size:Int)) = true:=decide_eq_true c15
  clear c15
  replace H:=Option.bind_eq_some_iff.mp H
  obtain ⟨t513,A170,H⟩:=H
  have A17:=Aside0.mk A170
  clear A170
  by_cases c18:3 + t513.size ≤ 9223372036854775807
  rotate_left
  ·rw [if_neg c18] at H
   exact absurd H (by simp)
  rw [if_pos c18] at H
  have c18b0:=eq_true c18
  have c18b1:decide (3 + t513.size ≤ 9223372036854775807) = true:=decide_eq_true c18
  try have c18b2:(9223372036854775807 < 3 + t513.size) = False:=eq_false (Nat.not_lt.2 c18)
  replace H:=Option.bind_eq_some_iff.mp H
  obtain ⟨⟨t514,t515,t516,t517⟩,A190,H⟩:=H
  replace H:(if t517 = 0 then (some ((⟨#[100,98,32]⟩:ByteArray) ++ t513,1)) else ((impl_TemplateOf.f kj2 t514 t515).bind fun t519 => ((strings_HasPrefix.f t519 (⟨#[106,114,32]⟩:ByteArray)).bind fun t520 => (if t520 = true then ((impl_jumps.f kj2 t514 t515 t516 a1).bind fun bt522 => ((impl_isWord.f bt522.1).bind fun t524 => (if t524 = true then ((impl_HexOf.f kj2 bt522.1 4).bind fun t525 => ((strings_Replace.f t519 (⟨#[101,56]⟩:ByteArray) t525 1).bind fun t526 => (some (t526,t517)))) else (some ((⟨#[100,98,32]⟩:ByteArray) ++ t513,1))))) else ((impl_InsText.f kj2 t514 t515 t516).bind fun t521 => (some (t521,t517))))))) = some (r1,r2):=H
  have A19:=Aside0.mk A190
  clear A190
  by_cases c20:t517 = 0
  ·rw [if_pos c20] at H
   have c20b0:(t517 == 0) = true:=beq_iff_eq.mpr c20
   have c20b1:(t517 != 0) = false:=bne_eq_false_iff_eq.mpr c20
   clear c20
   simp only [Option.some.injEq,Prod.mk.injEq] at H
   obtain ⟨rfl,rfl⟩:=H
   have p16:0 ≤ (a1:Int):=of_decide_eq_true q84_
   have q16:a1 < (a0.size:Int):=of_decide_eq_true q84_
   have hx16:=bt_at a0 a1
   replace p16:=eq_true p16
   replace q16:=eq_true q16
   go_wp2_with (first | ((with_reducible refine gate_callee (f:=112) rfl ?_);refine goesL_ (some 42) rfl rfl Tryz.func112 (by kernel_rfl) rfl #[.int .i64 (wrap64 (bt a0 a1)),.int .i64 2] rfl q10_ ?_;(with_reducible refine (impl_HexOf.calls kj2 (wrap64 (bt a0 a1)) 2 t513 _ A17.out).mono ?_);rintro e w21 ⟨rfl,hb⟩;refine ⟨_,rfl,?_⟩;replace HB:=Aside0.mk (below_step q46_ hb);(try clear hb)) | ((with_reducible refine gate_callee (f:=80) rfl ?_);refine goesL_ (some 47) rfl rfl Tryz.func80 (by kernel_rfl) rfl #[.string a0,.int .i64 a1] rfl q45_ ?_;(with_reducible refine (impl_inBank.calls kj2 a0 a1 t514 t515 t516 t517 _ A19.out).mono ?_);rintro e w22 ⟨rfl,hb⟩;refine ⟨_,rfl,?_⟩;replace HB:=Aside0.mk (below_step q46_ hb);(try clear hb)) | ((with_reducible refine gate_dst (N:=9) rfl ?_);refine box_event ?hg (N:=9) ?hd (cs:=#[.int .i64 0,.bool false,.int .i64 0]) (t:=30) ?hr ?_;(case hd => rfl);(case hg => rfl);(case hr => exact q105_);intro gb518 hg w23 hbox hb;have n0_:=Aside0.mk (below_step q46_ hb);have n1_:=Aside0.mk (hbox);have n2_:=Aside0.mk ((q27_:w.heap.size ≤ gb518));have n3_:=Aside0.mk ((q27_:w.heap.size ≤ gb518));clear HB;have HB:=n0_;have BK518:=n1_;have GW518:=n2_;have GE518:=n3_;clear n0_ n1_ n2_ n3_;clear hb hbox hg;have hcz24_0:w23.cell? ⟨gb518,0,none⟩ = some (.int .i64 0):=(blk_cell BK518.out 0).trans rfl;have hcz24_1:w23.cell? ⟨gb518,1,none⟩ = some (.bool false):=(blk_cell BK518.out 1).trans rfl;have hcz24_2:w23.cell? ⟨gb518,2,none⟩ = some (.int .i64 0):=(blk_cell BK518.out 2).trans rfl;have hfz24_0:=blk_frozen BK518.out 0;have hfz24_1:=blk_frozen BK518.out 1;have hfz24_2:=blk_frozen BK518.out 2))
   go_ret2
   exact ⟨q49_,q39_⟩
  rw [if_neg c20] at H
  have c20b0:(t517 == 0) = false:=beq_eq_false_iff_ne.mpr c20
  have c20b1:(t517 != 0) = true:=bne_iff_ne.mpr c20
  replace H:=Option.bind_eq_some_iff.mp H
  obtain ⟨t519,A250,H⟩:=H
  have A25:=Aside0.mk A250
  clear A250
  replace H:=Option.bind_eq_some_iff.mp H
  obtain ⟨t520,A260,H⟩:=H
  have A26:=Aside0.mk A260
  clear A260
  by_cases c27:t520 = true
  ·subst c27
   replace H:((impl_jumps.f kj2 t514 t515 t516 a1).bind fun bt522 => ((impl_isWord.f bt522.1).bind fun t524 => (if t524 = true then ((impl_HexOf.f kj2 bt522.1 4).bind fun t525 => ((strings_Replace.f t519 (⟨#[101,56]⟩:ByteArray) t525 1).bind fun t526 => (some (t526,t517)))) else (some ((⟨#[100,98,32]⟩:ByteArray) ++ t513,1))))) = some (r1,r2):=by rw [if_pos rfl] at H;exact H
   replace H:=Option.bind_eq_some_iff.mp H
   obtain ⟨⟨t522,t523⟩,A280,H⟩:=H
   replace H:((impl_isWord.f t522).bind fun t524 => (if t524 = true then ((impl_HexOf.f kj2 t522 4).bind fun t525 => ((strings_Replace.f t519 (⟨#[101,56]⟩:ByteArray) t525 1).bind fun t526 => (some (t526,t517)))) else (some ((⟨#[100,98,32]⟩:ByteArray) ++ t513,1)))) = some (r1,r2):=H
   have A28:=Aside0.mk A280
   clear A280
   replace H:=Option.bind_eq_some_iff.mp H
   obtain ⟨t524,A290,H⟩:=H
   have A29:=Aside0.mk A290
   clear A290
   by_cases c30:t524 = true
   ·subst c30
    replace H:((impl_HexOf.f kj2 t522 4).bind fun t525 => ((strings_Replace.f t519 (⟨#[101,56]⟩:ByteArray) t525 1).bind fun t526 => (some (t526,t517)))) = some (r1,r2):=by rw [if_pos rfl] at H;exact H
    replace H:=Option.bind_eq_some_iff.mp H
    obtain ⟨t525,A310,H⟩:=H
    have A31:=Aside0.mk A310
    clear A310
    replace H:=Option.bind_eq_some_iff.mp H
    obtain ⟨t526,A320,H⟩:=H
    have A32:=Aside0.mk A320
    clear A320
    simp only [Option.some.injEq,Prod.mk.injEq] at H
    obtain ⟨rfl,rfl⟩:=H
    have p16:0 ≤ (a1:Int):=of_decide_eq_true q84_
    have q16:a1 < (a0.size:Int):=of_decide_eq_true q84_
    have hx16:=bt_at a0 a1
    replace p16:=eq_true p16
    replace q16:=eq_true q16
    go_wp2_with (first | ((with_reducible refine gate_callee (f:=112) rfl ?_);refine goesL_ (some 42) rfl rfl Tryz.func112 (by kernel_rfl) rfl #[.int .i64 (wrap64 (bt a0 a1)),.int .i64 2] rfl q10_ ?_;(with_reducible refine (impl_HexOf.calls kj2 (wrap64 (bt a0 a1)) 2 t513 _ A17.out).mono ?_);rintro e w33 ⟨rfl,hb⟩;refine ⟨_,rfl,?_⟩;replace HB:=Aside0.mk (below_step q46_ hb);(try clear hb)) | ((with_reducible refine gate_callee (f:=80) rfl ?_);refine goesL_ (some 47) rfl rfl Tryz.func80 (by kernel_rfl) rfl #[.string a0,.int .i64 a1] rfl q45_ ?_;(with_reducible refine (impl_inBank.calls kj2 a0 a1 t514 t515 t516 t517 _ A19.out).mono ?_);rintro e w34 ⟨rfl,hb⟩;refine ⟨_,rfl,?_⟩;replace HB:=Aside0.mk (below_step q46_ hb);(try clear hb)) | ((with_reducible refine gate_dst (N:=9) rfl ?_);refine box_event ?hg (N:=9) ?hd (cs:=#[.int .i64 0,.bool false,.int .i64 0]) (t:=30) ?hr ?_;(case hd => rfl);(case hg => rfl);(case hr => exact q105_);intro gb518 hg w35 hbox hb;have n0_:=Aside0.mk (below_step q46_ hb);have n1_:=Aside0.mk (hbox);have n2_:=Aside0.mk ((q27_:w.heap.size ≤ gb518));have n3_:=Aside0.mk ((q27_:w.heap.size ≤ gb518));clear HB;have HB:=n0_;have BK518:=n1_;have GW518:=n2_;have GE518:=n3_;clear n0_ n1_ n2_ n3_;clear hb hbox hg;have hcz36_0:w35.cell? ⟨gb518,0,none⟩ = some (.int .i64 0):=(blk_cell BK518.out 0).trans rfl;have hcz36_1:w35.cell? ⟨gb518,1,none⟩ = some (.bool false):=(blk_cell BK518.out 1).trans rfl;have hcz36_2:w35.cell? ⟨gb518,2,none⟩ = some (.int .i64 0):=(blk_cell BK518.out 2).trans rfl;have hfz36_0:=blk_frozen BK518.out 0;have hfz36_1:=blk_frozen BK518.out 1;have hfz36_2:=blk_frozen BK518.out 2) | ((with_reducible refine gate_callee (f:=46) rfl ?_);refine goesL_ (some 57) rfl rfl Tryz.func46 (by kernel_rfl) rfl #[.int .i64 t514,.bool t515] rfl q45_ ?_;(with_reducible refine (impl_TemplateOf.calls kj2 t514 t515 t519 _ A25.out).mono ?_);rintro e w37 ⟨rfl,hb⟩;refine ⟨_,rfl,?_⟩;have n0_:=Aside0.mk (blk_below (g:=gb518) (o:=.cells #[.int .i64 t514,.bool t515,.int .i64 t516] 30 (0,0)) q1_ hb);have n1_:=Aside0.mk (below_step q39_ hb);clear BK518;clear HB;have BK518:=n0_;have HB:=n1_;clear n0_ n1_;(try clear hb)) | ((with_reducible refine gate_callee (f:=117) rfl ?_);refine goesL_ (some 59) rfl rfl Tryz.func117 (by kernel_rfl) rfl #[.string t519,.string (⟨#[106,114,32]⟩:ByteArray)] rfl q45_ ?_;(with_reducible refine (strings_HasPrefix.calls t519 (⟨#[106,114,32]⟩:ByteArray) true _ A26.out).mono ?_);rintro e w' ⟨rfl,⟨nd,rfl⟩⟩;refine ⟨_,rfl,?_⟩;have hcz38_0:w37.cell? ⟨gb518,0,none⟩ = some (.int .i64 t514):=(blk_cell BK518.out 0).trans rfl;have hcz38_1:w37.cell? ⟨gb518,1,none⟩ = some (.bool t515):=(blk_cell BK518.out 1).trans rfl;have hcz38_2:w37.cell? ⟨gb518,2,none⟩ = some (.int .i64 t516):=(blk_cell BK518.out 2).trans rfl;have hfz38_0:=blk_frozen BK518.out 0;have hfz38_1:=blk_frozen BK518.out 1;have hfz38_2:=blk_frozen BK518.out 2) | ((with_reducible refine gate_callee (f:=83) rfl ?_);refine goesL_ (some 67) rfl rfl Tryz.func83 (by kernel_rfl) rfl #[.agg #[.int .i64 t514,.bool t515,.int .i64 t516],.int .i64 a1] rfl q45_ ?_;(with_reducible refine (impl_jumps.calls kj2 t514 t515 t516 a1 t522 t523 _ A28.out).mono ?_);rintro e w39 ⟨rfl,hb⟩;refine ⟨_,rfl,?_⟩;have n0_:=Aside0.mk (blk_below (g:=gb518) (o:=.cells #[.int .i64 t514,.bool t515,.int .i64 t516] 30 (0,0)) q61_ hb);have n1_:=Aside0.mk (below_step q39_ hb);clear BK518;clear HB;have BK518:=n0_;have HB:=n1_;clear n0_ n1_;(try clear hb)) | ((with_reducible refine gate_callee (f:=57) rfl ?_);refine goesL_ (some 71) rfl rfl Tryz.func57 (by kernel_rfl) rfl #[.int .i64 t522] rfl q45_ ?_;(with_reducible refine (impl_isWord.calls t522 true _ A29.out).mono ?_);rintro e w' ⟨rfl,⟨nd,rfl⟩⟩;refine ⟨_,rfl,?_⟩) | ((with_reducible refine gate_callee (f:=112) rfl ?_);refine goesL_ (some 76) rfl rfl Tryz.func112 (by kernel_rfl) rfl #[.int .i64 t522,.int .i64 4] rfl q45_ ?_;(with_reducible refine (impl_HexOf.calls kj2 t522 4 t525 _ A31.out).mono ?_);rintro e w40 ⟨rfl,hb⟩;refine ⟨_,rfl,?_⟩;have n0_:=Aside0.mk (blk_below (g:=gb518) (o:=.cells #[.int .i64 t514,.bool t515,.int .i64 t516] 30 (0,0)) q61_ hb);have n1_:=Aside0.mk (below_step q39_ hb);clear BK518;clear HB;have BK518:=n0_;have HB:=n1_;clear n0_ n1_;(try clear hb)) | ((with_reducible refine gate_callee (f:=64) rfl ?_);refine goesL_ (some 77) rfl rfl Tryz.func64 (by kernel_rfl) rfl #[.string t519,.string (⟨#[101,56]⟩:ByteArray),.string t525,.int .i64 1] rfl q45_ ?_;(with_reducible refine (strings_Replace.calls t519 (⟨#[101,56]⟩:ByteArray) t525 1 t526 _ A32.out).mono ?_);rintro e w41 ⟨rfl,hb⟩;refine ⟨_,rfl,?_⟩;have n0_:=Aside0.mk (blk_below (g:=gb518) (o:=.cells #[.int .i64 t514,.bool t515,.int .i64 t516] 30 (0,0)) q61_ hb);have n1_:=Aside0.mk (below_step q39_ hb);clear BK518;clear HB;have BK518:=n0_;have HB:=n1_;clear n0_ n1_;(try clear hb)))
    go_ret2
    exact ⟨q49_,q39_⟩
   replace c30:=Bool.eq_false_iff.mpr c30
   subst c30
   replace H:(some ((⟨#[100,98,32]⟩:ByteArray) ++ t513,1)) = some (r1,r2):=by rw [if_neg (show ¬ (false = true) by decide)] at H;exact H
   simp only [Option.some.injEq,Prod.mk.injEq] at H
   obtain ⟨rfl,rfl⟩:=H
   have p16:0 ≤ (a1:Int):=of_decide_eq_true q84_
   have q16:a1 < (a0.size:Int):=of_decide_eq_true q84_
   have hx16:=bt_at a0 a1
   replace p16:=eq_true p16
   replace q16:=eq_true q16
   go_wp2_with (first | ((with_reducible refine gate_callee (f:=112) rfl ?_);refine goesL_ (some 42) rfl rfl Tryz.func112 (by kernel_rfl) rfl #[.int .i64 (wrap64 (bt a0 a1)),.int .i64 2] rfl q10_ ?_;(with_reducible refine (impl_HexOf.calls kj2 (wrap64 (bt a0 a1)) 2 t513 _ A17.out).mono ?_);rintro e w42 ⟨rfl,hb⟩;refine ⟨_,rfl,?_⟩;replace HB:=Aside0.mk (below_step q46_ hb);(try clear hb)) | ((with_reducible refine gate_callee (f:=80) rfl ?_);refine goesL_ (some 47) rfl rfl Tryz.func80 (by kernel_rfl) rfl #[.string a0,.int .i64 a1] rfl q45_ ?_;(with_reducible refine (impl_inBank.calls kj2 a0 a1 t514 t515 t516 t517 _ A19.out).mono ?_);rintro e w43 ⟨rfl,hb⟩;refine ⟨_,rfl,?_⟩;replace HB:=Aside0.mk (below_step q46_ hb);(try clear hb)) | ((with_reducible refine gate_dst (N:=9) rfl ?_);refine box_event ?hg (N:=9) ?hd (cs:=#[.int .i64 0,.bool false,.int .i64 0]) (t:=30) ?hr ?_;(case hd => rfl);(case hg => rfl);(case hr => exact q105_);intro gb518 hg w44 hbox hb;have n0_:=Aside0.mk (below_step q46_ hb);have n1_:=Aside0.mk (hbox);have n2_:=Aside0.mk ((q27_:w.heap.size ≤ gb518));have n3_:=Aside0.mk ((q27_:w.heap.size ≤ gb518));clear HB;have HB:=n0_;have BK518:=n1_;have GW518:=n2_;have GE518:=n3_;clear n0_ n1_ n2_ n3_;clear hb hbox hg;have hcz45_0:w44.cell? ⟨gb518,0,none⟩ = some (.int .i64 0):=(blk_cell BK518.out 0).trans rfl;have hcz45_1:w44.cell? ⟨gb518,1,none⟩ = some (.bool false):=(blk_cell BK518.out 1).trans rfl;have hcz45_2:w44.cell? ⟨gb518,2,none⟩ = some (.int .i64 0):=(blk_cell BK518.out 2).trans rfl;have hfz45_0:=blk_frozen BK518.out 0;have hfz45_1:=blk_frozen BK518.out 1;have hfz45_2:=blk_frozen BK518.out 2) | ((with_reducible refine gate_callee (f:=46) rfl ?_);refine goesL_ (some 57) rfl rfl Tryz.func46 (by kernel_rfl) rfl #[.int .i64 t514,.bool t515] rfl q45_ ?_;(with_reducible refine (impl_TemplateOf.calls kj2 t514 t515 t519 _ A25.out).mono ?_);rintro e w46 ⟨rfl,hb⟩;refine ⟨_,rfl,?_⟩;have n0_:=Aside0.mk (blk_below (g:=gb518) (o:=.cells #[.int .i64 t514,.bool t515,.int .i64 t516] 30 (0,0)) q1_ hb);have n1_:=Aside0.mk (below_step q39_ hb);clear BK518;clear HB;have BK518:=n0_;have HB:=n1_;clear n0_ n1_;(try clear hb)) | ((with_reducible refine gate_callee (f:=117) rfl ?_);refine goesL_ (some 59) rfl rfl Tryz.func117 (by kernel_rfl) rfl #[.string t519,.string (⟨#[106,114,32]⟩:ByteArray)] rfl q45_ ?_;(with_reducible refine (strings_HasPrefix.calls t519 (⟨#[106,114,32]⟩:ByteArray) true _ A26.out).mono ?_);rintro e w' ⟨rfl,⟨nd,rfl⟩⟩;refine ⟨_,rfl,?_⟩;have hcz47_0:w46.cell? ⟨gb518,0,none⟩ = some (.int .i64 t514):=(blk_cell BK518.out 0).trans rfl;have hcz47_1:w46.cell? ⟨gb518,1,none⟩ = some (.bool t515):=(blk_cell BK518.out 1).trans rfl;have hcz47_2:w46.cell? ⟨gb518,2,none⟩ = some (.int .i64 t516):=(blk_cell BK518.out 2).trans rfl;have hfz47_0:=blk_frozen BK518.out 0;have hfz47_1:=blk_frozen BK518.out 1;have hfz47_2:=blk_frozen BK518.out 2) | ((with_reducible refine gate_callee (f:=83) rfl ?_);refine goesL_ (some 67) rfl rfl Tryz.func83 (by kernel_rfl) rfl #[.agg #[.int .i64 t514,.bool t515,.int .i64 t516],.int .i64 a1] rfl q45_ ?_;(with_reducible refine (impl_jumps.calls kj2 t514 t515 t516 a1 t522 t523 _ A28.out).mono ?_);rintro e w48 ⟨rfl,hb⟩;refine ⟨_,rfl,?_⟩;have n0_:=Aside0.mk (blk_below (g:=gb518) (o:=.cells #[.int .i64 t514,.bool t515,.int .i64 t516] 30 (0,0)) q61_ hb);have n1_:=Aside0.mk (below_step q39_ hb);clear BK518;clear HB;have BK518:=n0_;have HB:=n1_;clear n0_ n1_;(try clear hb)) | ((with_reducible refine gate_callee (f:=57) rfl ?_);refine goesL_ (some 71) rfl rfl Tryz.func57 (by kernel_rfl) rfl #[.int .i64 t522] rfl q45_ ?_;(with_reducible refine (impl_isWord.calls t522 false _ A29.out).mono ?_);rintro e w' ⟨rfl,⟨nd,rfl⟩⟩;refine ⟨_,rfl,?_⟩))
   go_ret2
   exact ⟨q49_,q39_⟩
  replace c27:=Bool.eq_false_iff.mpr c27
  subst c27
  replace H:((impl_InsText.f kj2 t514 t515 t516).bind fun t521 => (some (t521,t517))) = some (r1,r2):=by rw [if_neg (show ¬ (false = true) by decide)] at H;exact H
  replace H:=Option.bind_eq_some_iff.mp H
  obtain ⟨t521,A490,H⟩:=H
  have A49:=Aside0.mk A490
  clear A490
  simp only [Option.some.injEq,Prod.mk.injEq] at H
  obtain ⟨rfl,rfl⟩:=H
  have p16:0 ≤ (a1:Int):=of_decide_eq_true q84_
  have q16:a1 < (a0.size:Int):=of_decide_eq_true q84_
  have hx16:=bt_at a0 a1
  replace p16:=eq_true p16
  replace q16:=eq_true q16
  go_wp2_with (first | ((with_reducible refine gate_callee (f:=112) rfl ?_);refine goesL_ (some 42) rfl rfl Tryz.func112 (by kernel_rfl) rfl #[.int .i64 (wrap64 (bt a0 a1)),.int .i64 2] rfl q10_ ?_;(with_reducible refine (impl_HexOf.calls kj2 (wrap64 (bt a0 a1)) 2 t513 _ A17.out).mono ?_);rintro e w50 ⟨rfl,hb⟩;refine ⟨_,rfl,?_⟩;replace HB:=Aside0.mk (below_step q46_ hb);(try clear hb)) | ((with_reducible refine gate_callee (f:=80) rfl ?_);refine goesL_ (some 47) rfl rfl Tryz.func80 (by kernel_rfl) rfl #[.string a0,.int .i64 a1] rfl q45_ ?_;(with_reducible refine (impl_inBank.calls kj2 a0 a1 t514 t515 t516 t517 _ A19.out).mono ?_);rintro e w51 ⟨rfl,hb⟩;refine ⟨_,rfl,?_⟩;replace HB:=Aside0.mk (below_step q46_ hb);(try clear hb)) | ((with_reducible refine gate_dst (N:=9) rfl ?_);refine box_event ?hg (N:=9) ?hd (cs:=#[.int .i64 0,.bool false,.int .i64 0]) (t:=30) ?hr ?_;(case hd => rfl);(case hg => rfl);(case hr => exact q105_);intro gb518 hg w52 hbox hb;have n0_:=Aside0.mk (below_step q46_ hb);have n1_:=Aside0.mk (hbox);have n2_:=Aside0.mk ((q27_:w.heap.size ≤ gb518));have n3_:=Aside0.mk ((q27_:w.heap.size ≤ gb518));clear HB;have HB:=n0_;have BK518:=n1_;have GW518:=n2_;have GE518:=n3_;clear n0_ n1_ n2_ n3_;clear hb hbox hg;have hcz53_0:w52.cell? ⟨gb518,0,none⟩ = some (.int .i64 0):=(blk_cell BK518.out 0).trans rfl;have hcz53_1:w52.cell? ⟨gb518,1,none⟩ = some (.bool false):=(blk_cell BK518.out 1).trans rfl;have hcz53_2:w52.cell? ⟨gb518,2,none⟩ = some (.int .i64 0):=(blk_cell BK518.out 2).trans rfl;have hfz53_0:=blk_frozen BK518.out 0;have hfz53_1:=blk_frozen BK518.out 1;have hfz53_2:=blk_frozen BK518.out 2) | ((with_reducible refine gate_callee (f:=46) rfl ?_);refine goesL_ (some 57) rfl rfl Tryz.func46 (by kernel_rfl) rfl #[.int .i64 t514,.bool t515] rfl q45_ ?_;(with_reducible refine (impl_TemplateOf.calls kj2 t514 t515 t519 _ A25.out).mono ?_);rintro e w54 ⟨rfl,hb⟩;refine ⟨_,rfl,?_⟩;have n0_:=Aside0.mk (blk_below (g:=gb518) (o:=.cells #[.int .i64 t514,.bool t515,.int .i64 t516] 30 (0,0)) q1_ hb);have n1_:=Aside0.mk (below_step q39_ hb);clear BK518;clear HB;have BK518:=n0_;have HB:=n1_;clear n0_ n1_;(try clear hb)) | ((with_reducible refine gate_callee (f:=117) rfl ?_);refine goesL_ (some 59) rfl rfl Tryz.func117 (by kernel_rfl) rfl #[.string t519,.string (⟨#[106,114,32]⟩:ByteArray)] rfl q45_ ?_;(with_reducible refine (strings_HasPrefix.calls t519 (⟨#[106,114,32]⟩:ByteArray) false _ A26.out).mono ?_);rintro e w' ⟨rfl,⟨nd,rfl⟩⟩;refine ⟨_,rfl,?_⟩;have hcz55_0:w54.cell? ⟨gb518,0,none⟩ = some (.int .i64 t514):=(blk_cell BK518.out 0).trans rfl;have hcz55_1:w54.cell? ⟨gb518,1,none⟩ = some (.bool t515):=(blk_cell BK518.out 1).trans rfl;have hcz55_2:w54.cell? ⟨gb518,2,none⟩ = some (.int .i64 t516):=(blk_cell BK518.out 2).trans rfl;have hfz55_0:=blk_frozen BK518.out 0;have hfz55_1:=blk_frozen BK518.out 1;have hfz55_2:=blk_frozen BK518.out 2) | ((with_reducible refine gate_callee (f:=26) rfl ?_);refine goesL_ (some 62) rfl rfl Tryz.func26 (by kernel_rfl) rfl #[.agg #[.int .i64 t514,.bool t515,.int .i64 t516]] rfl q45_ ?_;(with_reducible refine (impl_InsText.calls kj2 t514 t515 t516 t521 _ A49.out).mono ?_);rintro e w56 ⟨rfl,hb⟩;refine ⟨_,rfl,?_⟩;have n0_:=Aside0.mk (blk_below (g:=gb518) (o:=.cells #[.int .i64 t514,.bool t515,.int .i64 t516] 30 (0,0)) q61_ hb);have n1_:=Aside0.mk (below_step q39_ hb);clear BK518;clear HB;have BK518:=n0_;have HB:=n1_;clear n0_ n1_;(try clear hb)))
  go_ret2
  exact ⟨q49_,q39_⟩
mutual
def impl_Listed.j0:Nat → ByteArray → Int → Bool → Option (List ByteArray × Bool)
 | 0,_,_,_ => none
 | k + 1,x0,x1,x21 => if x21 = true then (some (([]:List ByteArray),false)) else (impl_Listed.l0 k x0 x1 (([]:List ByteArray)) (wrap64 (x1 * 256)))
def impl_Listed.l0:Nat → ByteArray → Int → List ByteArray → Int → Option (List ByteArray × Bool)
 | 0,_,_,_,_ => none
 | k + 1,x0,x1,x7,x8 => if x8 < (wrap64 ((wrap64 (x1 + 1)) * 256)) then ((impl_listedAt.f k x0 x8).bind fun bt532 => (if x7.length < 8796093022208 then (impl_Listed.l0 k x0 x1 (x7 ++ [bt532.1]) (wrap64 (x8 + bt532.2))) else (none))) else (some (x7,true))
end
def impl_Listed.f (k:Nat) (a0:ByteArray) (a1:Int):Option (List ByteArray × Bool):=(impl_banksOf.f a0 2).bind fun t527 => (if t527 = 0 then (impl_Listed.j0 k a0 a1 true) else ((impl_within.f a1 0 (wrap64 (t527 - 1))).bind fun t528 => (impl_Listed.j0 k a0 a1 (!t528))))
theorem impl_Listed.mono_l:∀ k,(∀ y0 y1 y2,LeO (impl_Listed.j0 k y0 y1 y2) (impl_Listed.j0 (k + 1) y0 y1 y2)) ∧ (∀ y0 y1 y2 y3,LeO (impl_Listed.l0 k y0 y1 y2 y3) (impl_Listed.l0 (k + 1) y0 y1 y2 y3))
 | 0 => ⟨fun _ _ _ r h => by simp [impl_Listed.j0] at h,fun _ _ _ _ r h => by simp [impl_Listed.l0] at h⟩
 | k + 1 => by
  obtain ⟨ih0,ih1⟩:=impl_Listed.mono_l k
  refine ⟨?_,?_⟩
  ·intro y0 y1 y2
   unfold impl_Listed.j0
   repeat' first
   | (with_reducible first | exact ih0 _ _ _ | exact ih1 _ _ _ _ | exact impl_listedAt.mono _ _ _ | exact LeO.refl _ | exact LeO.none _ | refine LeO.ite ?_ ?_ | refine LeO.bind ?_ (fun _ => ?_))
   | exact ih0 _ _ _
   | exact ih1 _ _ _ _
   | exact impl_listedAt.mono _ _ _
   | exact LeO.none _
   | refine LeO.ite ?_ ?_
   | refine LeO.bind ?_ (fun _ => ?_)
  intro y0 y1 y2 y3
  unfold impl_Listed.l0
  repeat' first
  | (with_reducible first | exact ih0 _ _ _ | exact ih1 _ _ _ _ | exact impl_listedAt.mono _ _ _ | exact LeO.refl _ | exact LeO.none _ | refine LeO.ite ?_ ?_ | refine LeO.bind ?_ (fun _ => ?_))
  | exact ih0 _ _ _
  | exact ih1 _ _ _ _
  | exact impl_listedAt.mono _ _ _
  | exact LeO.none _
  | refine LeO.ite ?_ ?_
  | refine LeO.bind ?_ (fun _ => ?_)
theorem impl_Listed.mono:∀ a0 a1 k,LeO (impl_Listed.f k a0 a1) (impl_Listed.f (k + 1) a0 a1):=by
 intro a0 a1 k
 obtain ⟨ih0,ih1⟩:=impl_Listed.mono_l k
 unfold impl_Listed.f
 repeat' first
   | (with_reducible first | exact ih0 _ _ _ | exact ih1 _ _ _ _ | exact impl_listedAt.mono _ _ _ | exact LeO.refl _ | exact LeO.none _ | refine LeO.ite ?_ ?_ | refine LeO.bind ?_ (fun _ => ?_))
   | exact ih0 _ _ _
   | exact ih1 _ _ _ _
   | exact impl_listedAt.mono _ _ _
   | exact LeO.none _
   | refine LeO.ite ?_ ?_
   | refine LeO.bind ?_ (fun _ => ?_)
theorem impl_Listed.calls (k:Nat) (a0:ByteArray) (a1:Int) (r1:List ByteArray) (r2:Bool) (w:World) (h:impl_Listed.f k a0 a1 = some (r1,r2)) (hG:Go.Proofs.YtodlnnoekccmmaaGreatDoor.LibW.GL w:=by first | exact hG | exact hG.below q4_ | exact hG.drewN _) :
  Calls Tryz.prog 37 #[.string a0,.int .i64 a1] w fun e w' => ∃ v0_:Value,e = .returned (.tuple #[v0_,.bool r2]) ∧ Kd.R Kd.string 9 w' w.heap.size (fun _ => True) v0_ r1 ∧ Below w.heap.size w w':=by
 have HB:=Aside0.mk (Below.refl w.heap.size w)
 have H:((impl_banksOf.f a0 2).bind fun t527 => (if t527 = 0 then (impl_Listed.j0 k a0 a1 true) else ((impl_within.f a1 0 (wrap64 (t527 - 1))).bind fun t528 => (impl_Listed.j0 k a0 a1 (!t528))))) = some (r1,r2):=h
 clear h
 replace H:=Option.bind_eq_some_iff.mp H
 obtain ⟨t527,A30,H⟩:=H
 have A3:=Aside0.mk A30
 clear A30
 have HC4:=Aside0.mk H
 clear H
 go_enter Tryz.func37,Tryz.ntmps37
 go_upto_region 2 with (first | ((with_reducible refine gate_callee (f:=78) rfl ?_);refine goesL_ (some 12) rfl rfl Tryz.func78 (by kernel_rfl) rfl #[.string a0,.int .i64 2] rfl q45_ ?_;(with_reducible refine (impl_banksOf.calls a0 2 t527 _ A3.out).mono ?_);rintro e w' ⟨rfl,⟨nd,rfl⟩⟩;refine ⟨_,rfl,?_⟩))
 (try simp only [Act.put,List.setIfInBounds_toArray,List.set_cons_zero,List.set_cons_succ])
 go_cut [21] (fun v21 wc => ∃ (kq:Nat) (x21_3:Bool),v21 = .bool x21_3 ∧ Aside0 (impl_Listed.j0 kq a0 a1 x21_3 = some (r1,r2)) ∧ Aside0 (kq ≤ k) ∧ Aside0 (Below w.heap.size w wc))
 case first =>
  have H:=HC4.out
  clear HC4
  by_cases c5:t527 = 0
  ·rw [if_pos c5] at H
   have c5b0:(t527 == 0) = true:=beq_iff_eq.mpr c5
   have c5b1:(t527 != 0) = false:=bne_eq_false_iff_eq.mpr c5
   clear c5
   (first | rw [c5b0] | (simp only [i64_w,i32_w];rw [c5b0]) | skip)
   have H':=Aside0.mk H
   clear H
   go_wp2
   go_meet
   case rel => exact ⟨_,(true),q65_,H',⟨q96_⟩,⟨q46_⟩⟩
  rw [if_neg c5] at H
  have c5b0:(t527 == 0) = false:=beq_eq_false_iff_ne.mpr c5
  have c5b1:(t527 != 0) = true:=bne_iff_ne.mpr c5
  (first | rw [c5b0] | (simp only [i64_w,i32_w];rw [c5b0]) | skip)
  replace H:=Option.bind_eq_some_iff.mp H
  obtain ⟨t528,A60,H⟩:=H
  have A6:=Aside0.mk A60
  clear A60
  have H':=Aside0.mk H
  clear H
  go_wp2_with (first | (go_at_call 61;(with_reducible refine (impl_within.calls a1 0 (wrap64 (t527 - 1)) t528 _ A6.out).mono ?_);rintro e w' ⟨rfl,⟨nd,rfl⟩⟩))
  go_meet
  case rel => exact ⟨_,(!t528),q65_,H',⟨q96_⟩,⟨q46_⟩⟩
 clear HC4
 try clear p2
 try clear c3
 try clear c5
 try clear c5b0
 try clear c5b1
 try clear p6
 obtain ⟨kq,x21_3,rfl,HA,HJ3,HB⟩:=hcut
 cases kq with
 | zero => exact absurd HA.out (by simp [impl_Listed.j0])
 | succ kj3 =>
  have H:=HA.out
  clear HA
  simp only [impl_Listed.j0] at H
  by_cases c7:x21_3 = true
  ·subst c7
   replace H:(some (([]:List ByteArray),false)) = some (r1,r2):=by rw [if_pos rfl] at H;exact H
   simp only [Option.some.injEq,Prod.mk.injEq] at H
   obtain ⟨rfl,rfl⟩:=H
   go_wp2
   go_ret2
   exact ⟨_,q49_,q43_,q46_⟩
  replace c7:=Bool.eq_false_iff.mpr c7
  subst c7
  replace H:(impl_Listed.l0 kj3 a0 a1 (([]:List ByteArray)) (wrap64 (a1 * 256))) = some (r1,r2):=by rw [if_neg (show ¬ (false = true) by decide)] at H;exact H
  obtain ⟨y529,hy529⟩:∃ y_:List ByteArray,y_ = (([]:List ByteArray)):=⟨_,rfl⟩
  replace H:(impl_Listed.l0 kj3 a0 a1 y529 (wrap64 (a1 * 256))) = some (r1,r2):=by first | (rw [hy529];with_reducible exact H) | (have H2_:=(Option.bind_some _ _).symm.trans H;rw [hy529];with_reducible exact H2_) | (have H2_:=(Option.bind_some _ _).symm.trans H;with_reducible exact H2_) | with_reducible exact H | (rw [hy529];exact H) | exact H
  have Ny529:=Aside0.mk hy529
  clear hy529
  have H':=Aside0.mk H
  clear H
  go_wp2_with (first | ((with_reducible refine gate_dst (N:=22) rfl ?_);refine Kd.R_lit Kd.string _ 9 ?hg (N:=22) ?hd (xs:=([]:List ByteArray)) (inner:=[]) (ok:=fun _ => True) (okp:=fun _ => True) ?hr ?hp (fun _ hk => hk) trivial (Below.refl _ _) (Nat.le_refl _) (by simp) ?_;(case hd => rfl);(case hg => rfl);(case hr => exact q105_);(case hp => exact (Reps.none _ _));intro v530 w8 ho9 hb hg_ hnew_;clear hg_ hnew_;(first | rw [← Ny529.out] at ho9 | (simp only [Int.reduceToNat] at ho9;rw [← Ny529.out] at ho9));have n0_:=Aside0.mk (Kd.R_lower ho9 (below_size q46_));have n1_:=Aside0.mk (below_step q46_ hb);clear HB;have HO531:=n0_;have HB:=n1_;clear n0_ n1_;clear hb ho9))
  go_loopg [7,8] kj3 (fun kq v7 v8 w' => ∃ (x7_2:List ByteArray) (x8_2:Int),v8 = .int .i64 x8_2 ∧ Aside0 (impl_Listed.l0 kq a0 a1 x7_2 x8_2 = some (r1,r2)) ∧ Aside0 (kq ≤ kj3) ∧ Aside0 (Kd.R Kd.string 9 w' w.heap.size (fun _ => True) v7 x7_2) ∧ Aside0 (Below w.heap.size w w'))
  case atStart => exact ⟨(y529),(wrap64 (a1 * 256)),q65_,H',⟨Nat.le_refl _⟩,⟨by (with_reducible repeat (first | apply Kd.R_alloc | apply Kd.R_drewN | apply Kd.R_drew));exact HO531.out⟩,⟨q46_⟩⟩
  clear H'
  try clear p2 p2
  try clear c3
  try clear c5
  try clear c5b0
  try clear c5b1
  try clear p6 p6
  try clear c7
  obtain ⟨x7_2,x8_2,rfl,HA,HK2,HO_7,HB⟩:=hrel
  cases gk with
  | zero => exact absurd HA.out (by simp [impl_Listed.l0])
  | succ k2 =>
   have H:=HA.out
   clear HA
   simp only [impl_Listed.l0] at H
   by_cases c10:x8_2 < (wrap64 ((wrap64 (a1 + 1)) * 256))
   ·rw [if_pos c10] at H
    have c10b0:decide (x8_2 < (wrap64 ((wrap64 (a1 + 1)) * 256))) = true:=decide_eq_true c10
    clear c10
    replace H:=Option.bind_eq_some_iff.mp H
    obtain ⟨⟨t532,t533⟩,A110,H⟩:=H
    replace H:(if x7_2.length < 8796093022208 then (impl_Listed.l0 k2 a0 a1 (x7_2 ++ [t532]) (wrap64 (x8_2 + t533))) else (none)) = some (r1,r2):=H
    have A11:=Aside0.mk A110
    clear A110
    by_cases c12:x7_2.length < 8796093022208
    rotate_left
    ·rw [if_neg c12] at H
     exact absurd H (by simp)
    rw [if_pos c12] at H
    have LMc12:=Aside0.mk c12
    clear c12
    obtain ⟨y534,hy534⟩:∃ y_:List ByteArray,y_ = (x7_2 ++ [t532]):=⟨_,rfl⟩
    replace H:(impl_Listed.l0 k2 a0 a1 y534 (wrap64 (x8_2 + t533))) = some (r1,r2):=by first | (rw [hy534];with_reducible exact H) | (have H2_:=(Option.bind_some _ _).symm.trans H;rw [hy534];with_reducible exact H2_) | (have H2_:=(Option.bind_some _ _).symm.trans H;with_reducible exact H2_) | with_reducible exact H | (rw [hy534];exact H) | exact H
    have Ny534:=Aside0.mk hy534
    clear hy534
    have H':=Aside0.mk H
    clear H
    go_wp2_with (first | ((with_reducible refine gate_callee (f:=87) rfl ?_);refine goesL_ (some 33) rfl rfl Tryz.func87 (by kernel_rfl) rfl #[.string a0,.int .i64 x8_2] rfl q45_ ?_;(with_reducible refine (impl_listedAt.calls k2 a0 x8_2 t532 t533 _ A11.out).mono ?_);rintro e w13 ⟨rfl,hb⟩;refine ⟨_,rfl,?_⟩;have n0_:=Aside0.mk (Kd.R_below q81_ hb);have n1_:=Aside0.mk (below_step q46_ hb);clear HO_7;clear HB;have HO_7:=n0_;have HB:=n1_;clear n0_ n1_;(try clear hb)) | ((with_reducible refine gate_builtin (b:=.append) (xs:=#[.tmp 36,.tmp 38]) rfl ?_);at_builtin;refine Kd.R_append Kd.string (w0:=w) w.heap.size rfl (.tmp 36) (.tmp 38) 47 9 (.string ⟨#[]⟩) 16 rfl Tryz.underlying47 info9 rfl (by decide) (by omega) u7 x7_2 t532 [.string t532] (fun _ => True) (fun _ => False) rfl rfl ?aP (fun _ hk => hk.elim) ?aF ?aO ?aB ?aS ?aL ?_;(case aP => exact rfl);(case aB => exact q46_);(case aF => exact (fun _ _ => trivial));(case aO => exact q81_);(case aS => exact (below_size q46_));(case aL => have:=LMc12.out;omega);intro v535 w14 ho hb hg hat;rw [← Ny534.out] at ho;have n0_:=Aside0.mk (hb);have n1_:=Aside0.mk (ho);clear HB;clear HO_7;have HB:=n0_;have HO536:=n1_;clear n0_ n1_;clear ho hb hg hat))
    go_roundg k2
    case measure => have:=HJ3.out;have:=HK2.out;omega
    case rel => exact ⟨(y534),(wrap64 (x8_2 + t533)),q65_,H',⟨by have:=HJ3.out;have:=HK2.out;omega⟩,⟨by (with_reducible repeat (first | apply Kd.R_alloc | apply Kd.R_drewN | apply Kd.R_drew));exact HO536.out⟩,⟨q46_⟩⟩
   rw [if_neg c10] at H
   have c10b0:decide (x8_2 < (wrap64 ((wrap64 (a1 + 1)) * 256))) = false:=decide_eq_false c10
   clear c10
   simp only [Option.some.injEq,Prod.mk.injEq] at H
   obtain ⟨rfl,rfl⟩:=H
   go_wp2
   go_ret2
   exact ⟨_,q49_,q81_,q46_⟩
end Go.Proofs.YtodlnnoekccmmaaGreatDoor.QFnExactSourceOf
