/- The machine's side of a law,written by a program of this session for this claim. -/
import Derived.Test.YtodlnnoekccmmaaGreatDoorKQq
import Derived.Test.YtodlnnoekccmmaaGreatDoorKQFnMarksx0
import Derived.Test.YtodlnnoekccmmaaGreatDoorKQFnMarksx1
import Derived.Test.YtodlnnoekccmmaaGreatDoorKQFnMarksx14
namespace Go.Proofs.YtodlnnoekccmmaaGreatDoor.QFnMarks
open Go.Proofs.YtodlnnoekccmmaaGreatDoor.Qq
open Go.RowKit Go.Proofs.YtodlnnoekccmmaaGreatDoor.LibX Go.Proofs.YtodlnnoekccmmaaGreatDoor.LibE Go.Proofs.YtodlnnoekccmmaaGreatDoor.LibCB Go.Proofs.YtodlnnoekccmmaaGreatDoorW.PrintWords Go.Proofs.YtodlnnoekccmmaaGreatDoorW.PrintLast Go.Proofs.YtodlnnoekccmmaaGreatDoorW.PrintMore
attribute [local go_sem] max2_int min2_int max_two min_two max_three min_three max_four min_four   -- for this text's walks alone
set_option maxHeartbeats 8000000
set_option maxRecDepth 100000
set_option linter.unusedVariables false
set_option linter.unusedSimpArgs false
mutual
def impl_MarksOf.j0:Nat → ByteArray → List Int → Bool → Option (ByteArray)
 | 0,_,_,_ => none
 | k + 1,x0,x1,x20 => if x20 = true then (some (⟨#[]⟩:ByteArray)) else ((strings_Repeat.f (⟨#[100]⟩:ByteArray) (x0.size:Int)).bind fun t496 => (if t496.size < 140737488355328 then ((some (([]:List Int):List Int)).bind fun y500 => (if y500.length + x1.length < 17592186044416 then (impl_MarksOf.l0 k x0 (bytesOf t496) (y500 ++ x1) 0) else (none))) else (none)))
def impl_MarksOf.l0:Nat → ByteArray → List Int → List Int → Int → Option (ByteArray)
 | 0,_,_,_,_ => none
 | k + 1,x0,x5,x6,x7 => if x7 < (x6.length:Int) then (if 0 ≤ x7 then ((impl_within.f (rd x6 x7) 0 (wrap64 ((x0.size:Int) - 1))).bind fun t507 => (if t507 = true then ((impl_inBank.f k x0 (rd x6 x7)).bind fun bt508 => (if bt508.2.2.2 = 0 then (impl_MarksOf.j2 k x0 x5 x6 x7 (rd x6 x7) bt508.2.2.2 true bt508.1 bt508.2.1 bt508.2.2.1) else (if 0 ≤ (rd x6 x7) then (if (rd x6 x7) ≤ (wrap64 ((rd x6 x7) + bt508.2.2.2)) then (if (wrap64 ((rd x6 x7) + bt508.2.2.2)) ≤ (x5.length:Int) then ((impl_isData.f k ((x5.take ((wrap64 ((rd x6 x7) + bt508.2.2.2)):Int).toNat).drop ((rd x6 x7):Int).toNat)).bind fun t517 => (impl_MarksOf.j2 k x0 x5 x6 x7 (rd x6 x7) bt508.2.2.2 (!t517) bt508.1 bt508.2.1 bt508.2.2.1)) else (none)) else (none)) else (none)))) else (impl_MarksOf.l0 k x0 x5 x6 (wrap64 (x7 + 1))))) else (none)) else (some (strOfNums x5))
def impl_MarksOf.j2:Nat → ByteArray → List Int → List Int → Int → Int → Int → Bool → Int → Bool → Int → Option (ByteArray)
 | 0,_,_,_,_,_,_,_,_,_,_ => none
 | k + 1,x0,x5,x6,x7,x8,x10,x61,x513000,x513001,x513002 => if x61 = true then (impl_MarksOf.l0 k x0 x5 x6 (wrap64 (x7 + 1))) else (if 0 ≤ x8 then (if x8 ≤ (x5.length:Int) then ((strings_Repeat.f (⟨#[46]⟩:ByteArray) (wrap64 (x10 - 1))).bind fun t522 => (if 1 + t522.size ≤ 9223372036854775807 then ((some (cpy x5 (x8:Int).toNat (x5.length - (x8:Int).toNat) (bytesOf ((⟨#[99]⟩:ByteArray) ++ t522)):List Int)).bind fun y523 => ((impl_goesOn.f k x513000 x513001 x513002).bind fun t524 => (if t524 = true then (if x6.length < 17592186044416 then (impl_MarksOf.j3 k x0 y523 (x6 ++ [wrap64 (x8 + x10)]) x7 x8 x513000 x513001 x513002) else (none)) else (impl_MarksOf.j3 k x0 y523 x6 x7 x8 x513000 x513001 x513002)))) else (none))) else (none)) else (none))
def impl_MarksOf.j3:Nat → ByteArray → List Int → List Int → Int → Int → Int → Bool → Int → Option (ByteArray)
 | 0,_,_,_,_,_,_,_,_ => none
 | k + 1,x0,x5,x6,x7,x8,x513000,x513001,x513002 => (impl_jumps.f k x513000 x513001 x513002 x8).bind fun bt528 => (if bt528.2 = true then ((impl_placeFrom.f bt528.1 (wrap64 (Int.tdiv x8 256))).bind fun t530 => (if x6.length < 17592186044416 then (impl_MarksOf.l0 k x0 x5 (x6 ++ [t530]) (wrap64 (x7 + 1))) else (none))) else (impl_MarksOf.l0 k x0 x5 x6 (wrap64 (x7 + 1))))
end
def impl_MarksOf.f (k:Nat) (a0:ByteArray) (l1:List Int):Option (ByteArray):=(impl_banksOf.f a0 2).bind fun t495 => (if t495 = 0 then (impl_MarksOf.j0 k a0 l1 true) else (impl_MarksOf.j0 k a0 l1 (decide ((l1.length:Int) > 100))))
def impl_MarksOf.T12:Bool × List (List Nat × List Nat):=(true,[([],[]),([],[]),([0,1],[0,1]),([],[]),([3],[3]),([4],[4]),([5],[5]),([2,6,5],[2,6])])
def impl_MarksOf.B12:List Nat:=[0,0,3,0,8,24,56,127]
theorem impl_MarksOf.tab12:rtab .any (opsOf Tryz.f33 12) = impl_MarksOf.T12:=by kernel_rfl
theorem impl_MarksOf.bits12:waitsOk impl_MarksOf.T12.2 impl_MarksOf.B12 = true:=by kernel_rfl
theorem impl_MarksOf.calls (k:Nat) (a0:ByteArray) (A1:Option Addr) (c1:Nat) (l1:List Int) (r:ByteArray) (w:World) (hr1:Kd.C (Kd.int .i64) w A1 l1.length l1) (hc1:l1.length ≤ c1) (h:impl_MarksOf.f k a0 l1 = some r) (hG:Go.Proofs.YtodlnnoekccmmaaGreatDoor.LibW.GL w:=by first | exact hG | exact hG.below q5_ | exact hG.drewN _) :
  Calls Tryz.prog 33 #[.string a0,.slice A1 l1.length c1] w fun e w' => e = .returned (.string r) ∧ Below w.heap.size w w':=by
 have hu30:=Tryz.underlying30
 have HR1:=Aside0.mk hr1
 have HC1:=Aside0.mk hc1
 clear hr1 hc1
 have HB:=Aside0.mk (Below.refl w.heap.size w)
 have H:=h;unfold impl_MarksOf.f at H
 clear h
 have HC3:=Aside0.mk H
 clear H
 go_enter Tryz.func33,Tryz.ntmps33
 go_upto_region 1 with (fail)
 go_cut [20] (fun v20 wc => ∃ (kq:Nat) (x20_2:Bool),v20 = .bool x20_2 ∧ Aside0 (impl_MarksOf.j0 kq a0 l1 x20_2 = some r) ∧ Aside0 (kq ≤ k) ∧ Aside0 (Below w.heap.size w wc))
 case first =>
  have H:=HC3.out
  clear HC3
  replace H:=Option.bind_eq_some_iff.mp H
  obtain ⟨t495,A40,H⟩:=H
  have A4:=Aside0.mk A40
  clear A40
  by_cases c5:t495 = 0
  ·rw [if_pos c5] at H
   have c5b0:(t495 == 0) = true:=beq_iff_eq.mpr c5
   have c5b1:(t495 != 0) = false:=bne_eq_false_iff_eq.mpr c5
   clear c5
   (first | rw [c5b0] | (simp only [i64_w,i32_w];rw [c5b0]) | skip)
   have H':=Aside0.mk H
   clear H
   go_wp2_with (first | ((with_reducible refine gate_callee (f:=78) rfl ?_);refine goesL_ (some 14) rfl rfl Tryz.func78 (by kernel_rfl) rfl #[.string a0,.int .i64 2] rfl q68_ ?_;(with_reducible refine (impl_banksOf.calls a0 2 t495 _ A4.out).mono ?_);rintro e w' ⟨rfl,⟨nd,rfl⟩⟩;refine ⟨_,rfl,?_⟩))
   go_meet
   case rel => exact ⟨_,(true),q94_,H',⟨q132_⟩,⟨q70_⟩⟩
  rw [if_neg c5] at H
  have c5b0:(t495 == 0) = false:=beq_eq_false_iff_ne.mpr c5
  have c5b1:(t495 != 0) = true:=bne_iff_ne.mpr c5
  (first | rw [c5b0] | (simp only [i64_w,i32_w];rw [c5b0]) | skip)
  have H':=Aside0.mk H
  clear H
  go_wp2_with (first | ((with_reducible refine gate_callee (f:=78) rfl ?_);refine goesL_ (some 14) rfl rfl Tryz.func78 (by kernel_rfl) rfl #[.string a0,.int .i64 2] rfl q68_ ?_;(with_reducible refine (impl_banksOf.calls a0 2 t495 _ A4.out).mono ?_);rintro e w' ⟨rfl,⟨nd,rfl⟩⟩;refine ⟨_,rfl,?_⟩))
  go_meet
  case rel => exact ⟨_,(decide ((l1.length:Int) > 100)),q94_,H',⟨q132_⟩,⟨q70_⟩⟩
 clear HC3
 try clear c1
 try clear p2
 try clear c3
 try clear c5
 try clear c5b0
 try clear c5b1
 obtain ⟨kq,x20_2,rfl,HA,HJ2,HB⟩:=hcut
 cases kq with
 | zero => exact absurd HA.out (by simp [impl_MarksOf.j0])
 | succ kj2 =>
  have H:=HA.out
  clear HA
  simp only [impl_MarksOf.j0] at H
  by_cases c6:x20_2 = true
  ·subst c6
   rewrite [if_pos rfl] at H
   obtain rfl:=Option.some.inj H
   go_wp2
   go_ret
   exact ⟨q75_,q70_⟩
  replace c6:=Bool.eq_false_iff.mpr c6
  subst c6
  rewrite [if_neg (show ¬ (false = true) by decide)] at H
  replace H:=Option.bind_eq_some_iff.mp H
  obtain ⟨t496,A70,H⟩:=H
  have A7:=Aside0.mk A70
  clear A70
  by_cases c8:t496.size < 140737488355328
  rotate_left
  ·rw [if_neg c8] at H
   exact absurd H (by simp)
  rw [if_pos c8] at H
  have LMc8:=Aside0.mk c8
  clear c8
  obtain ⟨y497,hy497⟩:∃ y_:List Int,y_ = (bytesOf t496):=⟨_,rfl⟩
  replace H:((some (([]:List Int):List Int)).bind fun y500 => (if y500.length + l1.length < 17592186044416 then (impl_MarksOf.l0 kj2 a0 y497 (y500 ++ l1) 0) else (none))) = some r:=by first | (rw [hy497];exact H) | exact H
  have Ny497:=Aside0.mk hy497
  clear hy497
  obtain ⟨y500,hy500⟩:∃ y_:List Int,y_ = (([]:List Int)):=⟨_,rfl⟩
  replace H:(if y500.length + l1.length < 17592186044416 then (impl_MarksOf.l0 kj2 a0 y497 (y500 ++ l1) 0) else (none)) = some r:=by first | (rw [hy500];exact H) | exact H
  have Ny500:=Aside0.mk hy500
  clear hy500
  by_cases c9:y500.length + l1.length < 17592186044416
  rotate_left
  ·rw [if_neg c9] at H
   exact absurd H (by simp)
  rw [if_pos c9] at H
  have LMc9:=Aside0.mk c9
  clear c9
  obtain ⟨y503,hy503⟩:∃ y_:List Int,y_ = (y500 ++ l1):=⟨_,rfl⟩
  replace H:(impl_MarksOf.l0 kj2 a0 y497 y503 0) = some r:=by first | (rw [hy503];exact H) | exact H
  have Ny503:=Aside0.mk hy503
  clear hy503
  have H':=Aside0.mk H
  clear H
  go_wp2_with (first | ((with_reducible refine gate_callee (f:=79) rfl ?_);refine goesL_ (some 23) rfl rfl Tryz.func79 (by kernel_rfl) rfl #[.string (⟨#[100]⟩:ByteArray),.int .i64 (a0.size:Int)] rfl q68_ ?_;(with_reducible refine (strings_Repeat.calls (⟨#[100]⟩:ByteArray) (a0.size:Int) t496 _ A7.out).mono ?_);rintro e w10 ⟨rfl,hb⟩;refine ⟨_,rfl,?_⟩;replace HB:=Aside0.mk (below_step q70_ hb);(try clear hb)) | ((with_reducible refine gate_dst (N:=24) rfl ?_);(try (refine gate_guard (by rfl) ?_;dsimp only));refine B_conv (w0:=w) w.heap.size rfl (.tmp 23) 9 22 5 rfl Tryz.underlying9 Tryz.underlying22 Tryz.underlying5 t496 rfl (ok:=(fun _ => True)) ?aF ?aB ?aS ?aL ?_;(case aB => exact q70_);(case aF => exact (fun _ _ => trivial));(case aS => exact (below_size q70_));(case aL => have:=LMc8.out;omega);intro v498 w11 ho hb hg;have hat:=True.intro;rw [← Ny497.out] at ho;change Kd.B (Kd.int .u8) 5 w11 w.heap.size (fun _ => True) v498 y497 at ho;have n0_:=Aside0.mk (hb);have n1_:=Aside0.mk (ho);clear HB;have HB:=n0_;have HO499:=n1_;clear n0_ n1_;clear ho hb hg hat) | ((with_reducible refine gate_dst (N:=25) rfl ?_);(try (refine gate_guard (by rfl) ?_;dsimp only));refine Kd.R_lit (Kd.int .i64) _ 2 ?hg (N:=25) ?hd (xs:=([]:List Int)) (inner:=[]) (ok:=fun _ => True) (okp:=fun _ => True) ?hr ?hp (fun _ hk => hk) trivial (Below.refl _ _) (Nat.le_refl _) (by simp) ?_;(case hd => rfl);(case hg => rfl);(case hr => exact q153_);(case hp => exact (Reps.none _ _));intro v501 w12 ho13 hb hg_ hnew_;clear hg_ hnew_;(first | rw [← Ny500.out] at ho13 | (simp only [Int.reduceToNat] at ho13;rw [← Ny500.out] at ho13));have n0_:=Aside0.mk (Kd.B_below q108_ hb);have n1_:=Aside0.mk (Kd.R_lower ho13 (below_size q70_));have n2_:=Aside0.mk (below_step q70_ hb);clear HO499;clear HB;have HO499:=n0_;have HO502:=n1_;have HB:=n2_;clear n0_ n1_ n2_;clear hb ho13) | ((with_reducible refine gate_builtin (b:=.append) (xs:=#[.tmp 25,.tmp 26]) rfl ?_);(try (refine gate_guard (by rfl) ?_;dsimp only));at_builtin;refine Kd.R_append_rows (Kd.int .i64) (w0:=w) w.heap.size rfl (.tmp 25) (.tmp 26) 40 2 (.int .i64 0) 8 rfl Tryz.underlying40 info2 rfl (by decide) (by omega) v501 y500 l1 _ _ _ (fun _ => True) (fun _ => False) rfl rfl ?aO ?aR (fun _ _ h => h) (fun _ h => h.elim) ?aF ?aB ?aS ?aL ?_;(case aR => exact q147_);(case aB => exact q70_);(case aF => exact (fun _ _ => trivial));(case aO => exact (by (with_reducible repeat (first | apply Kd.R_alloc | apply Kd.R_drewN | apply Kd.R_drew));exact HO502.out));(case aS => exact (below_size q70_));(case aL => have:=LMc9.out;omega);intro v504 w14 ho hb hg hat;rw [← Ny503.out] at ho;have n0_:=Aside0.mk (Kd.B_over' q108_ (Kd.R_typed (by (with_reducible repeat (first | apply Kd.R_alloc | apply Kd.R_drewN | apply Kd.R_drew));exact HO502.out)) (by decide) hg);have n1_:=Aside0.mk (hb);have n2_:=Aside0.mk (ho);clear HO499;clear HB;clear HO502;have HO499:=n0_;have HB:=n1_;have HO505:=n2_;clear n0_ n1_ n2_;clear ho hb hg hat))
  go_loopg [6,7] kj2 (fun kq v6 v7 w' => ∃ (x5_2:List Int) (x6_2:List Int) (x7_2:Int),v7 = .int .i64 x7_2 ∧ Aside0 (impl_MarksOf.l0 kq a0 x5_2 x6_2 x7_2 = some r) ∧ Aside0 (kq ≤ kj2) ∧ Aside0 (Kd.B (Kd.int .u8) 5 w' w.heap.size (fun _ => True) v498 x5_2) ∧ Aside0 (Kd.R (Kd.int .i64) 2 w' w.heap.size (fun _ => True) v6 x6_2) ∧ Aside0 (Below w.heap.size w w'))
  case atStart => exact ⟨(y497),(y503),(0),q94_,H',⟨Nat.le_refl _⟩,⟨q108_⟩,⟨by (with_reducible repeat (first | apply Kd.R_alloc | apply Kd.R_drewN | apply Kd.R_drew));exact HO505.out⟩,⟨q70_⟩⟩
  clear H'
  try clear c1
  try clear p2 p2
  try clear c3
  try clear c5
  try clear c5b0
  try clear c5b1
  try clear c6
  try clear p6
  try clear c7
  try clear c8
  try clear c9
  obtain ⟨x5_2,x6_2,x7_2,rfl,HA,HK2,HO_5,HO_6,HB⟩:=hrel
  cases gk with
  | zero => exact absurd HA.out (by simp [impl_MarksOf.l0])
  | succ k2 =>
   have H:=HA.out
   clear HA
   simp only [impl_MarksOf.l0] at H
   by_cases c15:x7_2 < (x6_2.length:Int)
   ·rw [if_pos c15] at H
    have c15b0:=decide_eq_true c15
    clear c15
    by_cases c16:0 ≤ x7_2
    rotate_left
    ·rw [if_neg c16] at H
     exact absurd H (by simp)
    rw [if_pos c16] at H
    have c16b0:=decide_eq_true c16
    clear c16
    replace H:=Option.bind_eq_some_iff.mp H
    obtain ⟨t507,A170,H⟩:=H
    have A17:=Aside0.mk A170
    clear A170
    by_cases c18:t507 = true
    ·subst c18
     rewrite [if_pos rfl] at H
     replace H:=Option.bind_eq_some_iff.mp H
     obtain ⟨⟨t508,t509,t510,t511⟩,A190,H⟩:=H
     try dsimp -simprocs -eta only at H
     have A19:=Aside0.mk A190
     clear A190
     have HC20:=Aside0.mk H
     clear H
     obtain ⟨Ao21,co21,eo21⟩:=Kd.R_slice HO_6.out
     subst eo21
     have p506:0 ≤ (x7_2:Int):=of_decide_eq_true q119_
     have q506:x7_2 < (x6_2.length:Int):=of_decide_eq_true q119_
     obtain ⟨ad506,e506,hx506_0⟩:=Kd.at_int (Kd.R_reads' HO_6.out).2.2 x7_2 p506 q506
     cases e506
     replace p506:=eq_true p506
     replace q506:=eq_true q506
     go_upto_region 11 with (first | ((with_reducible refine gate_callee (f:=61) rfl ?_);refine goesL_ (some 42) rfl rfl Tryz.func61 (by kernel_rfl) rfl #[.int .i64 (rd x6_2 x7_2),.int .i64 0,.int .i64 (wrap64 ((a0.size:Int) - 1))] rfl q7_ ?_;(with_reducible refine (impl_within.calls (rd x6_2 x7_2) 0 (wrap64 ((a0.size:Int) - 1)) true _ A17.out).mono ?_);rintro e w' ⟨rfl,⟨nd,rfl⟩⟩;refine ⟨_,rfl,?_⟩;(try (rw [drewN_self wr];generalize hq_:World.drewN wr _ = wr;have n0_:Aside0 (Kd.B (Kd.int .u8) 5 wr w.heap.size (fun _ => True) v498 x5_2):=⟨by rw [← hq_];exact q113_⟩;have n1_:Aside0 (Kd.R (Kd.int .i64) 2 wr w.heap.size (fun _ => True) (.slice (some ad506) x6_2.length co21) x6_2):=⟨by rw [← hq_];exact q114_⟩;have n2_:Aside0 (Below w.heap.size w wr):=⟨by rw [← hq_];exact q70_⟩;clear HO_5 HO_6 HB hq_;have HO_5:=n0_;have HO_6:=n1_;have HB:=n2_;clear n0_ n1_ n2_))) | ((with_reducible refine gate_callee (f:=80) rfl ?_);refine goesL_ (some 47) rfl rfl Tryz.func80 (by kernel_rfl) rfl #[.string a0,.int .i64 (rd x6_2 x7_2)] rfl q68_ ?_;(with_reducible refine (impl_inBank.calls k2 a0 (rd x6_2 x7_2) t508 t509 t510 t511 _ A19.out).mono ?_);rintro e w22 ⟨rfl,hb⟩;refine ⟨_,rfl,?_⟩;have n0_:=Aside0.mk (Kd.B_below q113_ hb);have n1_:=Aside0.mk (Kd.R_below q114_ hb);have n2_:=Aside0.mk (below_step q70_ hb);clear HO_5;clear HO_6;clear HB;have HO_5:=n0_;have HO_6:=n1_;have HB:=n2_;clear n0_ n1_ n2_;(try clear hb)) | ((with_reducible refine gate_dst (N:=9) rfl ?_);(try (refine gate_guard (by rfl) ?_;dsimp only));refine box_event ?hg (N:=9) ?hd (cs:=#[.int .i64 0,.bool false,.int .i64 0]) (t:=30) ?hr ?_;(case hd => rfl);(case hg => rfl);(case hr => exact q153_);intro gb512 hg w23 hbox hb;have n0_:=Aside0.mk (Kd.B_below q113_ hb);have n1_:=Aside0.mk (Kd.R_below q114_ hb);have n2_:=Aside0.mk (below_step q70_ hb);have n3_:=Aside0.mk (hbox);have n4_:=Aside0.mk ((q46_:w.heap.size ≤ gb512));have n5_:=Aside0.mk ((q46_:w.heap.size ≤ gb512));clear HO_5;clear HO_6;clear HB;have HO_5:=n0_;have HO_6:=n1_;have HB:=n2_;have BK512:=n3_;have GW512:=n4_;have GE512:=n5_;clear n0_ n1_ n2_ n3_ n4_ n5_;clear hb hbox hg;have hcz24_0:w23.cell? ⟨gb512,0,none⟩ = some (.int .i64 0):=(blk_cell BK512.out 0).trans rfl;have hcz24_1:w23.cell? ⟨gb512,1,none⟩ = some (.bool false):=(blk_cell BK512.out 1).trans rfl;have hcz24_2:w23.cell? ⟨gb512,2,none⟩ = some (.int .i64 0):=(blk_cell BK512.out 2).trans rfl;have hfz24_0:=blk_frozen BK512.out 0;have hfz24_1:=blk_frozen BK512.out 1;have hfz24_2:=blk_frozen BK512.out 2) | ((with_reducible refine gate_store (t:=30) (p:=9) rfl ?_);refine store_event (t:=30) (p:=9) (v:=?vo_w25) (w1:=(((w23.setCell ⟨gb512,0,none⟩ (.int .i64 t508)).setCell ⟨gb512,1,none⟩ (.bool t509)).setCell ⟨gb512,2,none⟩ (.int .i64 t510))) ?hg ?ho ?hn ?hr ?_;(case ho => rfl);(case hg => rfl);(case hn => rfl);(case hr => exact q153_);intro w25 hw;have n0_:Aside0 (Kd.B (Kd.int .u8) 5 w25 w.heap.size (fun _ => True) v498 x5_2):=⟨(by rw [hw];exact (by (with_reducible repeat (first | apply Kd.B_alloc | apply Kd.B_drewN | apply Kd.B_drew));exact Kd.B_mono (Kd.B_far (p:=⟨gb512,2,none⟩) (Kd.B_far (p:=⟨gb512,1,none⟩) (Kd.B_far (p:=⟨gb512,0,none⟩) (Kd.B_types HO_5.out BK512.out (by decide)) (fun _ hk => hk.2) (.int .i64 t508)) (fun _ hk => hk.2) (.bool t509)) (fun _ hk => hk.2) (.int .i64 t510)) (fun _ hk => trivial)))⟩;have n1_:Aside0 (Kd.R (Kd.int .i64) 2 w25 w.heap.size (fun _ => True) (.slice (some ad506) x6_2.length co21) x6_2):=⟨(by rw [hw];exact (by (with_reducible repeat (first | apply Kd.R_alloc | apply Kd.R_drewN | apply Kd.R_drew));exact Kd.R_mono (Kd.R_far (p:=⟨gb512,2,none⟩) (Kd.R_far (p:=⟨gb512,1,none⟩) (Kd.R_far (p:=⟨gb512,0,none⟩) (Kd.R_types HO_6.out BK512.out (by decide)) (fun _ hk => hk.2) (.int .i64 t508)) (fun _ hk => hk.2) (.bool t509)) (fun _ hk => hk.2) (.int .i64 t510)) (fun _ hk => trivial)))⟩;have n2_:Aside0 (w25.heap[gb512]? = some (.cells #[.int .i64 t508,.bool t509,.int .i64 t510] 30 (0,0))):=⟨(by rw [hw];exact (by (with_reducible repeat (first | refine blk_drewN ?_ _ | refine blk_drew ?_ | refine blk_alloc ?_ _));refine blk_put (cs:=#[.int .i64 t508,.bool t509,.int .i64 0]) ?_ 2 _ rfl;(with_reducible repeat (first | refine blk_drewN ?_ _ | refine blk_drew ?_ | refine blk_alloc ?_ _));refine blk_put (cs:=#[.int .i64 t508,.bool false,.int .i64 0]) ?_ 1 _ rfl;(with_reducible repeat (first | refine blk_drewN ?_ _ | refine blk_drew ?_ | refine blk_alloc ?_ _));refine blk_put (cs:=#[.int .i64 0,.bool false,.int .i64 0]) ?_ 0 _ rfl;(with_reducible repeat (first | refine blk_drewN ?_ _ | refine blk_drew ?_ | refine blk_alloc ?_ _));exact BK512.out))⟩;have n3_:Aside0 (Below w.heap.size w w25):=⟨(by rw [hw];exact q55_)⟩;clear hw;clear HO_5;clear HO_6;clear BK512;clear HB;have HO_5:=n0_;have HO_6:=n1_;have BK512:=n2_;have HB:=n3_;clear n0_ n1_ n2_ n3_))
     (try simp only [Act.put,List.setIfInBounds_toArray,List.set_cons_zero,List.set_cons_succ])
     go_cut [61] (fun v61 wc => ∃ (kq:Nat) (x61_19:Bool),v61 = .bool x61_19 ∧ Aside0 (impl_MarksOf.j2 kq a0 x5_2 x6_2 x7_2 (rd x6_2 x7_2) t511 x61_19 t508 t509 t510 = some r) ∧ Aside0 (kq ≤ k2) ∧ Aside0 (Kd.B (Kd.int .u8) 5 wc w.heap.size (fun _ => True) v498 x5_2) ∧ Aside0 (Kd.R (Kd.int .i64) 2 wc w.heap.size (fun _ => True) (.slice (some ad506) x6_2.length co21) x6_2) ∧ Aside0 (wc.heap[gb512]? = some (.cells #[.int .i64 t508,.bool t509,.int .i64 t510] 30 (0,0))) ∧ Aside0 (Below w.heap.size w wc))
     case first =>
      have H:=HC20.out
      clear HC20
      by_cases c26:t511 = 0
      ·rw [if_pos c26] at H
       have c26b0:(t511 == 0) = true:=beq_iff_eq.mpr c26
       have c26b1:(t511 != 0) = false:=bne_eq_false_iff_eq.mpr c26
       clear c26
       (first | rw [c26b0] | (simp only [i64_w,i32_w];rw [c26b0]) | skip)
       have H':=Aside0.mk H
       clear H
       go_wp2
       go_meet
       case rel => exact ⟨_,(true),q94_,H',⟨by have:=HJ2.out;have:=HK2.out;first | omega | exact Nat.le_refl _⟩,⟨q113_⟩,⟨q114_⟩,⟨q84_⟩,⟨q55_⟩⟩
      rw [if_neg c26] at H
      have c26b0:(t511 == 0) = false:=beq_eq_false_iff_ne.mpr c26
      have c26b1:(t511 != 0) = true:=bne_iff_ne.mpr c26
      (first | rw [c26b0] | (simp only [i64_w,i32_w];rw [c26b0]) | skip)
      by_cases c27:0 ≤ (rd x6_2 x7_2)
      rotate_left
      ·rw [if_neg c27] at H
       exact absurd H (by simp)
      rw [if_pos c27] at H
      have c27b0:=eq_true c27
      have c27b1:=decide_eq_true c27
      clear c27
      by_cases c28:(rd x6_2 x7_2) ≤ (wrap64 ((rd x6_2 x7_2) + t511))
      rotate_left
      ·rw [if_neg c28] at H
       exact absurd H (by simp)
      rw [if_pos c28] at H
      have c28b0:=eq_true c28
      have c28b1:=decide_eq_true c28
      by_cases c29:(wrap64 ((rd x6_2 x7_2) + t511)) ≤ (x5_2.length:Int)
      rotate_left
      ·rw [if_neg c29] at H
       exact absurd H (by simp)
      rw [if_pos c29] at H
      have c29b0:=eq_true c29
      have c29b1:=decide_eq_true c29
      obtain ⟨y513,hy513⟩:∃ y_:List Int,y_ = ((x5_2.take ((wrap64 ((rd x6_2 x7_2) + t511)):Int).toNat).drop ((rd x6_2 x7_2):Int).toNat):=⟨_,rfl⟩
      replace H:((impl_isData.f k2 y513).bind fun t517 => (impl_MarksOf.j2 k2 a0 x5_2 x6_2 x7_2 (rd x6_2 x7_2) t511 (!t517) t508 t509 t510)) = some r:=by first | (rw [hy513];exact H) | exact H
      have Ny513:=Aside0.mk hy513
      clear hy513
      replace H:=Option.bind_eq_some_iff.mp H
      obtain ⟨t517,A300,H⟩:=H
      have A30:=Aside0.mk A300
      clear A300
      have H':=Aside0.mk H
      clear H
      obtain ⟨Ao32,co32,eo32⟩:=Kd.B_slice HO_5.out
      subst eo32
      have q31:((wrap64 ((rd x6_2 x7_2) + t511)):Int) ≤ ((x5_2.length:Int):Int):=of_decide_eq_true q119_
      obtain ⟨i031,hi031,_,hsz31,_⟩:=info_parts info5
      have hroom31:x5_2.length ≤ co32:=(Kd.B_reads' HO_5.out).2.1
      have hC31:Kd.C (Kd.int .u8) _ Ao32 x5_2.length x5_2:=(Kd.B_reads' HO_5.out).2.2
      have ql31:((rd x6_2 x7_2):Int) ≤ ((wrap64 ((rd x6_2 x7_2) + t511)):Int):=of_decide_eq_true q119_
      have q031:(0:Int) ≤ ((rd x6_2 x7_2):Int):=of_decide_eq_true q119_
      have hcut31:=cut_mid (P:=Tryz.prog) 22 5 .i64 .i64 Tryz.underlying22 hi031 1 hsz31 Ao32 x5_2.length co32 (rd x6_2 x7_2) (wrap64 ((rd x6_2 x7_2) + t511)) q031 ql31 q31 hroom31
      have hr31:=Kd.C_mid (lo:=((rd x6_2 x7_2):Int).toNat) (hi:=((wrap64 ((rd x6_2 x7_2) + t511)):Int).toNat) (c:=co32) hC31 (by omega) (by omega) hroom31
      obtain ⟨A31,hA31⟩:∃ A1,A1 = (if co32 = ((rd x6_2 x7_2):Int).toNat then Ao32 else (Ao32:Option Addr).map (·.add (((rd x6_2 x7_2):Int).toNat * 1))):=⟨_,rfl⟩
      obtain ⟨c31,hc31⟩:∃ c1,c1 = co32 - ((rd x6_2 x7_2):Int).toNat:=⟨_,rfl⟩
      have hy31:y513.length = ((wrap64 ((rd x6_2 x7_2) + t511)):Int).toNat - ((rd x6_2 x7_2):Int).toNat:=(by rw [Ny513.out,List.length_drop,List.length_take] <;> omega)
      rw [show ((x5_2).take ((wrap64 ((rd x6_2 x7_2) + t511)):Int).toNat).drop ((rd x6_2 x7_2):Int).toNat = y513 from Ny513.out.symm] at hr31
      replace hr31:Kd.C (Kd.int .u8) _ A31 y513.length y513:=(by rw [hA31];exact hr31)
      rw [← hy31,← hA31,← hc31] at hcut31
      have HR516:=Aside0.mk hr31
      have HC516:=Aside0.mk (show y513.length ≤ c31 from by rw [hy31,hc31];exact Nat.sub_le_sub_right (Nat.le_trans (by omega) hroom31) _)
      clear hr31 hC31 hroom31 hi031 hsz31 hc31
      have KY31:=Aside0.mk hy31
      have KA31:=Aside0.mk hA31
      clear hy31 hA31
      have KL31:=Aside0.mk (show ((wrap64 ((rd x6_2 x7_2) + t511)):Int).toNat ≤ x5_2.length from by omega)
      have KM31:=Aside0.mk (show ((rd x6_2 x7_2):Int).toNat ≤ ((wrap64 ((rd x6_2 x7_2) + t511)):Int).toNat from by omega)
      replace q31:=eq_true q31
      go_wp2_with (first | (go_at_call 81;(with_reducible refine (impl_isData.calls k2 _ _ y513 t517 _ ?side1 ?side2 A30.out).mono ?_);(case side1 => repeat (first | exact (by repeat (first | (with_reducible exact HR516.out) | (with_reducible refine Kd.C_alloc ?_ _) | (with_reducible refine Kd.C_drewN ?_ _) | (with_reducible refine Kd.C_drew ?_) | exact HR516.out)) | (with_reducible refine Kd.C_alloc ?_ _) | (with_reducible refine Kd.C_drewN ?_ _) | (with_reducible refine Kd.C_drew ?_)));(case side2 => exact HC516.out);rintro e w' ⟨rfl,⟨nd,rfl⟩⟩))
      go_meet
      case rel => exact ⟨_,(!t517),q94_,H',⟨by have:=HJ2.out;have:=HK2.out;first | omega | exact Nat.le_refl _⟩,⟨q113_⟩,⟨q114_⟩,⟨q84_⟩,⟨q55_⟩⟩
     clear HC20
     try clear c1
     try clear c2
     try clear p2 p2
     try clear c3
     try clear q3
     try clear c5
     try clear c5b0
     try clear c5b1
     try clear p5
     try clear q5
     try clear hx5
     try clear c6
     try clear p6 p6
     try clear c7
     try clear c8
     try clear c9
     try clear c15
     try clear c15b0
     try clear c16
     try clear c16b0
     try clear c18
     try clear c26
     try clear c26b0
     try clear c26b1
     try clear c27
     try clear c27b0
     try clear c27b1
     try clear c28
     try clear c28b0
     try clear c28b1
     try clear c29
     try clear c29b0
     try clear c29b1
     try clear c31
     try clear q31 q31
     try clear hcz24_0 hcz24_1 hcz24_2
     try clear hfz24_0 hfz24_1 hfz24_2
     try clear hx506_0
     try clear p506
     try clear q031
     try clear q506
     obtain ⟨kq,x61_19,rfl,HA,HJ19,HO_5,HO_6,BK512,HB⟩:=hcut
     cases kq with
     | zero => exact absurd HA.out (by simp [impl_MarksOf.j2])
     | succ kj19 =>
      have H:=HA.out
      clear HA
      simp only [impl_MarksOf.j2] at H
      by_cases c33:x61_19 = true
      ·subst c33
       rewrite [if_pos rfl] at H
       have H':=Aside0.mk H
       clear H
       go_wp2
       go_roundg kj19
       case measure => have:=HJ2.out;have:=HK2.out;have:=HJ19.out;omega
       case rel => exact ⟨(x5_2),(x6_2),(wrap64 (x7_2 + 1)),q94_,H',⟨by have:=HJ2.out;have:=HK2.out;have:=HJ19.out;omega⟩,⟨q113_⟩,⟨q114_⟩,⟨q55_⟩⟩
      replace c33:=Bool.eq_false_iff.mpr c33
      subst c33
      rewrite [if_neg (show ¬ (false = true) by decide)] at H
      by_cases c34:0 ≤ (rd x6_2 x7_2)
      rotate_left
      ·rw [if_neg c34] at H
       exact absurd H (by simp)
      rw [if_pos c34] at H
      have c34b0:=eq_true c34
      have c34b1:=decide_eq_true c34
      clear c34
      by_cases c35:(rd x6_2 x7_2) ≤ (x5_2.length:Int)
      rotate_left
      ·rw [if_neg c35] at H
       exact absurd H (by simp)
      rw [if_pos c35] at H
      have c35b0:=eq_true c35
      have c35b1:=decide_eq_true c35
      clear c35
      obtain ⟨y518,hy518⟩:∃ y_:List Int,y_ = (x5_2.drop ((rd x6_2 x7_2):Int).toNat):=⟨_,rfl⟩
      replace H:((strings_Repeat.f (⟨#[46]⟩:ByteArray) (wrap64 (t511 - 1))).bind fun t522 => (if 1 + t522.size ≤ 9223372036854775807 then ((some (cpy x5_2 ((rd x6_2 x7_2):Int).toNat (x5_2.length - ((rd x6_2 x7_2):Int).toNat) (bytesOf ((⟨#[99]⟩:ByteArray) ++ t522)):List Int)).bind fun y523 => ((impl_goesOn.f kj19 t508 t509 t510).bind fun t524 => (if t524 = true then (if x6_2.length < 17592186044416 then (impl_MarksOf.j3 kj19 a0 y523 (x6_2 ++ [wrap64 ((rd x6_2 x7_2) + t511)]) x7_2 (rd x6_2 x7_2) t508 t509 t510) else (none)) else (impl_MarksOf.j3 kj19 a0 y523 x6_2 x7_2 (rd x6_2 x7_2) t508 t509 t510)))) else (none))) = some r:=by first | (rw [hy518];exact H) | exact H
      have Ny518:=Aside0.mk hy518
      clear hy518
      replace H:=Option.bind_eq_some_iff.mp H
      obtain ⟨t522,A360,H⟩:=H
      have A36:=Aside0.mk A360
      clear A360
      by_cases c37:1 + t522.size ≤ 9223372036854775807
      rotate_left
      ·rw [if_neg c37] at H
       exact absurd H (by simp)
      rw [if_pos c37] at H
      have c37b0:=eq_true c37
      have c37b1:=decide_eq_true c37
      try have c37b2:(9223372036854775807 < 1 + t522.size) = False:=eq_false (Nat.not_lt.2 c37)
      obtain ⟨y523,hy523⟩:∃ y_:List Int,y_ = (cpy x5_2 ((rd x6_2 x7_2):Int).toNat (x5_2.length - ((rd x6_2 x7_2):Int).toNat) (bytesOf ((⟨#[99]⟩:ByteArray) ++ t522))):=⟨_,rfl⟩
      replace H:((impl_goesOn.f kj19 t508 t509 t510).bind fun t524 => (if t524 = true then (if x6_2.length < 17592186044416 then (impl_MarksOf.j3 kj19 a0 y523 (x6_2 ++ [wrap64 ((rd x6_2 x7_2) + t511)]) x7_2 (rd x6_2 x7_2) t508 t509 t510) else (none)) else (impl_MarksOf.j3 kj19 a0 y523 x6_2 x7_2 (rd x6_2 x7_2) t508 t509 t510))) = some r:=by first | (rw [hy523];exact H) | exact H
      have Ny523:=Aside0.mk hy523
      clear hy523
      replace H:=Option.bind_eq_some_iff.mp H
      obtain ⟨t524,A380,H⟩:=H
      have A38:=Aside0.mk A380
      clear A380
      have HC39:=Aside0.mk H
      clear H
      try go_wp2
      have n0_:=Aside0.mk (Kd.B_drew HO_5.out)
      have n1_:=Aside0.mk (Kd.R_drew HO_6.out)
      have n2_:=Aside0.mk (blk_drew BK512.out)
      have n3_:=Aside0.mk (below_drew1 HB.out)
      clear HO_5
      clear HO_6
      clear BK512
      clear HB
      have HO_5:=n0_
      have HO_6:=n1_
      have BK512:=n2_
      have HB:=n3_
      clear n0_ n1_ n2_ n3_
      obtain ⟨Ao42,co42,eo42⟩:=Kd.B_slice HO_5.out
      (first | subst eo42 | (injection eo42 with f1_ f2_ f3_;have f4_:=f1_.symm;have f5_:=f3_.symm;clear f1_ f2_ f3_;subst f4_;subst f5_))
      have q41:((rd x6_2 x7_2):Int) ≤ ((x5_2.length:Int):Int):=of_decide_eq_true q119_
      obtain ⟨i041,hi041,_,hsz41,_⟩:=info_parts info5
      have hroom41:x5_2.length ≤ co42:=(Kd.B_reads' HO_5.out).2.1
      have hC41:Kd.C (Kd.int .u8) _ Ao42 x5_2.length x5_2:=(Kd.B_reads' HO_5.out).2.2
      have q041:(0:Int) ≤ ((rd x6_2 x7_2):Int):=of_decide_eq_true q119_
      have hcut41:=cut_from (P:=Tryz.prog) 22 5 .i64 Tryz.underlying22 hi041 1 hsz41 Ao42 x5_2.length co42 (rd x6_2 x7_2) q041 q41
      have hr41:=Kd.C_drop (m:=((rd x6_2 x7_2):Int).toNat) (c:=co42) hC41 (by omega) hroom41
      obtain ⟨A41,hA41⟩:∃ A1,A1 = (if co42 = ((rd x6_2 x7_2):Int).toNat then Ao42 else (Ao42:Option Addr).map (·.add (((rd x6_2 x7_2):Int).toNat * 1))):=⟨_,rfl⟩
      obtain ⟨c41,hc41⟩:∃ c1,c1 = co42 - ((rd x6_2 x7_2):Int).toNat:=⟨_,rfl⟩
      have hy41:y518.length = x5_2.length - ((rd x6_2 x7_2):Int).toNat:=(by rw [Ny518.out,List.length_drop] <;> omega)
      rw [show (x5_2).drop ((rd x6_2 x7_2):Int).toNat = y518 from Ny518.out.symm] at hr41
      replace hr41:Kd.C (Kd.int .u8) _ A41 y518.length y518:=(by rw [hA41];exact hr41)
      rw [← hy41,← hA41,← hc41] at hcut41
      have HR521:=Aside0.mk hr41
      have HC521:=Aside0.mk (show y518.length ≤ c41 from by rw [hy41,hc41];exact Nat.sub_le_sub_right hroom41 _)
      clear hr41 hC41 hroom41 hi041 hsz41 hc41
      have KY41:=Aside0.mk hy41
      have KA41:=Aside0.mk hA41
      clear hy41 hA41
      have KL41:=Aside0.mk (show ((rd x6_2 x7_2):Int).toNat ≤ x5_2.length from by omega)
      replace q41:=eq_true q41
      refine start_ (n:=8) (S:=fun w' => True) (ds:=[]) #[false,false,false,false,false,false,false,false] (by kernel_rfl) rfl rfl trivial (fun hHeld => ?_);refine with_tabW impl_MarksOf.tab12 impl_MarksOf.bits12 (fun HT_ HW_ => ?_)
      generalize wc.drew = w40 at HO_5 HO_6 BK512 HB HR521 hHeld ⊢
      refine pure_ (i:=0) (N:=some 62) (v:=?_) (a':=?_) #[true,false,false,false,false,false,false,false] rfl rfl (any_of HT_.out (by kernel_rfl)) (fun _ _ _ h => h) (Or.inl ⟨by rfl,?_⟩) ?_ ?_
      rotate_left
      ·intro w'
       go_simp
       with_reducible rfl
      rotate_left
      ·simp only [Act.put,List.setIfInBounds_toArray,List.set_cons_zero,List.set_cons_succ,i64_w,i32_w]
       rfl
      refine pure_ (i:=1) (N:=some 63) (v:=?_) (a':=?_) #[true,true,false,false,false,false,false,false] rfl rfl (any_of HT_.out (by kernel_rfl)) (fun _ _ _ h => h) (Or.inl ⟨by rfl,?_⟩) ?_ ?_
      rotate_left
      ·intro w'
       go_simp
       with_reducible rfl
      rotate_left
      ·simp only [Act.put,List.setIfInBounds_toArray,List.set_cons_zero,List.set_cons_succ,i64_w,i32_w]
       rfl
      refine pure_ (i:=2) (N:=some 64) (v:=?_) (a':=?_) #[true,true,true,false,false,false,false,false] rfl rfl (any_of HT_.out (by kernel_rfl)) (fun _ _ _ h => h) (Or.inl ⟨by rfl,?_⟩) ?_ ?_
      rotate_left
      ·intro w'
       go_simp
       with_reducible rfl
      rotate_left
      ·simp only [Act.put,List.setIfInBounds_toArray,List.set_cons_zero,List.set_cons_succ,i64_w,i32_w]
       rfl
      refine pure_ (i:=3) (N:=some 65) (v:=?_) (a':=?_) #[true,true,true,true,false,false,false,false] rfl rfl (any_of HT_.out (by kernel_rfl)) (fun _ _ _ h => h) (Or.inl ⟨by rfl,?_⟩) ?_ ?_
      rotate_left
      ·intro w'
       go_simp
       with_reducible rfl
      rotate_left
      ·simp only [Act.put,List.setIfInBounds_toArray,List.set_cons_zero,List.set_cons_succ,i64_w,i32_w]
       rfl
      refine pure_ (i:=4) (N:=some 66) (v:=?_) (a':=?_) #[true,true,true,true,true,false,false,false] rfl rfl (any_of HT_.out (by kernel_rfl)) (fun _ _ _ h => h) (Or.inl ⟨by rfl,?_⟩) ?_ ?_
      rotate_left
      ·intro w'
       go_simp
       with_reducible rfl
      rotate_left
      ·simp only [Act.put,List.setIfInBounds_toArray,List.set_cons_zero,List.set_cons_succ,i64_w,i32_w]
       rfl
      refine one_ (i:=5) (N:=some 67) #[true,true,true,true,true,true,false,false] rfl rfl (one_of HT_.out (by kernel_rfl)) (by decide) (fun K hK => ?_)
      refine goes_ Tryz.func79 (by kernel_rfl) rfl #[.string (⟨#[46]⟩:ByteArray),.int .i64 (wrap64 (t511 - 1))] (by rfl) rfl rfl q68_ ?_
      with_reducible refine (strings_Repeat.calls (⟨#[46]⟩:ByteArray) (wrap64 (t511 - 1)) t522 _ A36.out).mono ?_
      rintro e w43 ⟨rfl,hb⟩
      refine ⟨_,rfl,?_⟩
      have n0_:=Aside0.mk (Kd.B_below q113_ hb)
      have n1_:=Aside0.mk (Kd.R_below q114_ hb)
      have n2_:=Aside0.mk (blk_below (g:=gb512) (o:=.cells #[.int .i64 t508,.bool t509,.int .i64 t510] 30 (0,0)) q84_ hb)
      have n3_:=Aside0.mk (Kd.C_below (by repeat (first | (with_reducible exact HR521.out) | (with_reducible refine Kd.C_alloc ?_ _) | (with_reducible refine Kd.C_drewN ?_ _) | (with_reducible refine Kd.C_drew ?_) | exact HR521.out)) hb)
      have n4_:=Aside0.mk (below_step q55_ hb)
      clear HO_5
      clear HO_6
      clear BK512
      clear HR521
      clear HB
      have HO_5:=n0_
      have HO_6:=n1_
      have BK512:=n2_
      have HR521:=n3_
      have HB:=n4_
      clear n0_ n1_ n2_ n3_ n4_
      (try clear hb)
      (try clear hb2)
      (try clear hk)
      (try clear hi)
      refine hK.out _ _ trivial (fun hHeld => ?_)
      clear hK K
      refine norm_ (a':=?_) ?_ ?_
      rotate_left
      ·show Act.put _ (some 67) _ = _
       simp only [Act.put,List.setIfInBounds_toArray,List.set_cons_zero,List.set_cons_succ,i64_w,i32_w]
       rfl
      refine pure_ (i:=6) (N:=some 68) (v:=?_) (a':=?_) #[true,true,true,true,true,true,true,false] rfl rfl (any_of HT_.out (by kernel_rfl)) (fun _ _ _ h => h) (Or.inl ⟨by rfl,?_⟩) ?_ ?_
      rotate_left
      ·intro w'
       go_simp
       with_reducible rfl
      rotate_left
      ·simp only [Act.put,List.setIfInBounds_toArray,List.set_cons_zero,List.set_cons_succ,i64_w,i32_w]
       rfl
      refine one_ (i:=7) (N:=some 69) #[true,true,true,true,true,true,true,true] rfl rfl (one_of HT_.out (by kernel_rfl)) (by decide) (fun K hK => ?_)
      have e_:=(Kd.B_reads' HO_5.out).1
      have hy1_:=KY41.out
      have b0_:(0:Int) ≤ ((rd x6_2 x7_2):Int):=of_decide_eq_true q119_
      have b2_:((rd x6_2 x7_2):Int) ≤ ((x5_2.length:Int):Int):=of_decide_eq_true q119_
      have hm_:y518.length = (x5_2.length - ((rd x6_2 x7_2):Int).toNat):=(by omega)
      have hv_:cpy x5_2 ((rd x6_2 x7_2):Int).toNat y518.length (bytesOf ((⟨#[99]⟩:ByteArray) ++ t522)) = y523:=(by rw [Ny523.out];first | done | rw [hm_])
      refine B_copy_step (w0:=w) w.heap.size (by rfl) (.tmp 64) _ 22 _ 5 rfl Tryz.underlying22 (by kernel_rfl) (A0:=Ao42) (n:=x5_2.length) (c:=co42) (m:=y518.length) (lo:=((rd x6_2 x7_2):Int).toNat) rfl rfl ?hA q113_ ?hl q55_ (below_size q55_) ?_
      (case hA => exact .inr KA41.out)
      (case hl => omega)
      intro w44 ho hb hg
      rw [hv_] at ho
      clear e_ hm_ hv_ hy1_ b0_ b2_
      have n0_:=Aside0.mk (ho)
      have n1_:=Aside0.mk (Kd.R_overB q114_ HO_5.out (by decide) hg)
      have n2_:=Aside0.mk (blk_grown (g:=gb512) (o:=.cells #[.int .i64 t508,.bool t509,.int .i64 t510] 30 (0,0)) q84_ hg (Kd.B_ne HO_5.out BK512.out (by decide)))
      have n3_:=Aside0.mk (hb)
      clear HO_5
      clear HO_6
      clear BK512
      clear HB
      have HO_5:=n0_
      have HO_6:=n1_
      have BK512:=n2_
      have HB:=n3_
      clear n0_ n1_ n2_ n3_
      clear ho hb hg
      refine hK.out _ _ trivial (fun hHeld => ?_)
      clear hK K
      refine norm_ (a':=?_) ?_ ?_
      rotate_left
      ·show Act.put _ (some 69) _ = _
       simp only [Act.put,List.setIfInBounds_toArray,List.set_cons_zero,List.set_cons_succ,i64_w,i32_w]
       rfl
      refine done_ (done_of HT_.out (by kernel_rfl)) ?_
      have hcz46_0:w44.cell? ⟨gb512,0,none⟩ = some (.int .i64 t508):=bz_ BK512 0
      have hcz46_1:w44.cell? ⟨gb512,1,none⟩ = some (.bool t509):=bz_ BK512 1
      have hcz46_2:w44.cell? ⟨gb512,2,none⟩ = some (.int .i64 t510):=bz_ BK512 2
      have hfz46_0:=blk_frozen BK512.out 0
      have hfz46_1:=blk_frozen BK512.out 1
      have hfz46_2:=blk_frozen BK512.out 2
      go_upto_if 71 with (first | ((with_reducible refine gate_callee (f:=82) rfl ?_);refine goesL_ (some 71) rfl rfl Tryz.func82 (by kernel_rfl) rfl #[.agg #[.int .i64 t508,.bool t509,.int .i64 t510]] rfl q68_ ?_;(with_reducible refine (impl_goesOn.calls kj19 t508 t509 t510 t524 _ A38.out).mono ?_);rintro e w47 ⟨rfl,hb⟩;refine ⟨_,rfl,?_⟩;have n0_:=Aside0.mk (Kd.B_below q113_ hb);have n1_:=Aside0.mk (Kd.R_below q114_ hb);have n2_:=Aside0.mk (blk_below (g:=gb512) (o:=.cells #[.int .i64 t508,.bool t509,.int .i64 t510] 30 (0,0)) q84_ hb);have n3_:=Aside0.mk (below_step q55_ hb);clear HO_5;clear HO_6;clear BK512;clear HB;have HO_5:=n0_;have HO_6:=n1_;have BK512:=n2_;have HB:=n3_;clear n0_ n1_ n2_ n3_;(try clear hb)))
      (try simp only [Act.put,List.setIfInBounds_toArray,List.set_cons_zero,List.set_cons_succ])
      go_cut [6] (fun v6 wc => ∃ (kq:Nat) (x6_38:List Int),Aside0 (impl_MarksOf.j3 kq a0 y523 x6_38 x7_2 (rd x6_2 x7_2) t508 t509 t510 = some r) ∧ Aside0 (kq ≤ kj19) ∧ Aside0 (Kd.B (Kd.int .u8) 5 wc w.heap.size (fun _ => True) (.slice Ao42 x5_2.length co42) y523) ∧ Aside0 (Kd.R (Kd.int .i64) 2 wc w.heap.size (fun _ => True) v6 x6_38) ∧ Aside0 (wc.heap[gb512]? = some (.cells #[.int .i64 t508,.bool t509,.int .i64 t510] 30 (0,0))) ∧ Aside0 (Below w.heap.size w wc))
      case first =>
       have H:=HC39.out
       clear HC39
       by_cases c48:t524 = true
       ·subst c48
        rewrite [if_pos rfl] at H
        by_cases c49:x6_2.length < 17592186044416
        rotate_left
        ·rw [if_neg c49] at H
         exact absurd H (by simp)
        rw [if_pos c49] at H
        have LMc49:=Aside0.mk c49
        clear c49
        obtain ⟨y525,hy525⟩:∃ y_:List Int,y_ = (x6_2 ++ [wrap64 ((rd x6_2 x7_2) + t511)]):=⟨_,rfl⟩
        replace H:(impl_MarksOf.j3 kj19 a0 y523 y525 x7_2 (rd x6_2 x7_2) t508 t509 t510) = some r:=by first | (rw [hy525];exact H) | exact H
        have Ny525:=Aside0.mk hy525
        clear hy525
        have H':=Aside0.mk H
        clear H
        go_wp2_with (first | ((with_reducible refine gate_builtin (b:=.append) (xs:=#[.tmp 72,.tmp 76]) rfl ?_);(try (refine gate_guard (by rfl) ?_;dsimp only));at_builtin;refine Kd.R_append (Kd.int .i64) (w0:=w) w.heap.size rfl (.tmp 72) (.tmp 76) 40 2 (.int .i64 0) 8 rfl Tryz.underlying40 info2 rfl (by decide) (by omega) (.slice (some ad506) x6_2.length co21) x6_2 (wrap64 ((rd x6_2 x7_2) + t511)) [.int .i64 (wrap64 ((rd x6_2 x7_2) + t511))] (fun _ => True) (fun _ => False) rfl rfl ?aP (fun _ hk => hk.elim) ?aF ?aO ?aB ?aS ?aL ?_;(case aP => exact rfl);(case aB => exact q55_);(case aF => exact (fun _ _ => trivial));(case aO => exact q114_);(case aS => exact (below_size q55_));(case aL => have:=LMc49.out;omega);intro v526 w50 ho hb hg hat;rw [← Ny525.out] at ho;have n0_:=Aside0.mk (Kd.B_over' q113_ (Kd.R_typed q114_) (by decide) hg);have n1_:=Aside0.mk (blk_grown (g:=gb512) (o:=.cells #[.int .i64 t508,.bool t509,.int .i64 t510] 30 (0,0)) q84_ hg (Kd.R_ne HO_6.out BK512.out (by decide)));have n2_:=Aside0.mk (hb);have n3_:=Aside0.mk (ho);clear HO_5;clear BK512;clear HB;clear HO_6;have HO_5:=n0_;have BK512:=n1_;have HB:=n2_;have HO527:=n3_;clear n0_ n1_ n2_ n3_;clear ho hb hg hat))
        go_meet
        case rel => exact ⟨_,(y525),H',⟨by have:=HJ2.out;have:=HK2.out;have:=HJ19.out;first | omega | exact Nat.le_refl _⟩,⟨q113_⟩,⟨by (with_reducible repeat (first | apply Kd.R_alloc | apply Kd.R_drewN | apply Kd.R_drew));exact HO527.out⟩,⟨q84_⟩,⟨q55_⟩⟩
       replace c48:=Bool.eq_false_iff.mpr c48
       subst c48
       rewrite [if_neg (show ¬ (false = true) by decide)] at H
       have H':=Aside0.mk H
       clear H
       go_wp2
       go_meet
       case rel => exact ⟨_,(x6_2),H',⟨by have:=HJ2.out;have:=HK2.out;have:=HJ19.out;first | omega | exact Nat.le_refl _⟩,⟨q113_⟩,⟨q114_⟩,⟨q84_⟩,⟨q55_⟩⟩
      clear HC39
      try clear c1
      try clear c2
      try clear p2 p2
      try clear c3
      try clear q3 q3
      try clear c4
      try clear q4
      try clear c5
      try clear c5b0
      try clear c5b1
      try clear p5 p5
      try clear q5 q5
      try clear hx5
      try clear c6
      try clear p6 p6
      try clear c7
      try clear c8
      try clear c9
      try clear c15
      try clear c15b0
      try clear c16
      try clear c16b0
      try clear c18
      try clear c26
      try clear c26b0
      try clear c26b1
      try clear c27
      try clear c27b0
      try clear c27b1
      try clear c28
      try clear c28b0
      try clear c28b1
      try clear c29
      try clear c29b0
      try clear c29b1
      try clear c31
      try clear q31 q31
      try clear c33
      try clear c34
      try clear c34b0
      try clear c34b1
      try clear c35
      try clear c35b0
      try clear c35b1
      try clear c37
      try clear c37b0
      try clear c37b1
      try clear c37b2
      try clear c41
      try clear q41 q41
      try clear c48
      try clear c49
      try clear p50
      try clear q50
      try clear hx50
      try clear hcz24_0 hcz24_1 hcz24_2
      try clear hcz46_0 hcz46_1 hcz46_2
      try clear hfz24_0 hfz24_1 hfz24_2
      try clear hfz46_0 hfz46_1 hfz46_2
      try clear hx506_0
      try clear p506
      try clear q031
      try clear q041
      try clear q506
      obtain ⟨kq,x6_38,HA,HJ38,HO_5,HO_6,BK512,HB⟩:=hcut
      have hl5_38:=(Kd.B_reads' HO_5.out).1
      rw [hl5_38] at HO_5
      (try simp only [hl5_38])
      (try simp only [hl5_38] at BK512)
      (try simp only [hl5_38] at HO_6)
      cases kq with
      | zero => exact absurd HA.out (by simp [impl_MarksOf.j3])
      | succ kj38 =>
       have H:=HA.out
       clear HA
       simp only [impl_MarksOf.j3] at H
       replace H:=Option.bind_eq_some_iff.mp H
       obtain ⟨⟨t528,t529⟩,A510,H⟩:=H
       try dsimp -simprocs -eta only at H
       have A51:=Aside0.mk A510
       clear A510
       by_cases c52:t529 = true
       ·subst c52
        rewrite [if_pos rfl] at H
        replace H:=Option.bind_eq_some_iff.mp H
        obtain ⟨t530,A530,H⟩:=H
        have A53:=Aside0.mk A530
        clear A530
        by_cases c54:x6_38.length < 17592186044416
        rotate_left
        ·rw [if_neg c54] at H
         exact absurd H (by simp)
        rw [if_pos c54] at H
        have LMc54:=Aside0.mk c54
        clear c54
        obtain ⟨y531,hy531⟩:∃ y_:List Int,y_ = (x6_38 ++ [t530]):=⟨_,rfl⟩
        replace H:(impl_MarksOf.l0 kj38 a0 y523 y531 (wrap64 (x7_2 + 1))) = some r:=by first | (rw [hy531];exact H) | exact H
        have Ny531:=Aside0.mk hy531
        clear hy531
        have H':=Aside0.mk H
        clear H
        have hcz55_0:wc.cell? ⟨gb512,0,none⟩ = some (.int .i64 t508):=bz_ BK512 0
        have hcz55_1:wc.cell? ⟨gb512,1,none⟩ = some (.bool t509):=bz_ BK512 1
        have hcz55_2:wc.cell? ⟨gb512,2,none⟩ = some (.int .i64 t510):=bz_ BK512 2
        have hfz55_0:=blk_frozen BK512.out 0
        have hfz55_1:=blk_frozen BK512.out 1
        have hfz55_2:=blk_frozen BK512.out 2
        go_wp2_with (first | ((with_reducible refine gate_callee (f:=83) rfl ?_);refine goesL_ (some 81) rfl rfl Tryz.func83 (by kernel_rfl) rfl #[.agg #[.int .i64 t508,.bool t509,.int .i64 t510],.int .i64 (rd x6_2 x7_2)] rfl q68_ ?_;(with_reducible refine (impl_jumps.calls kj38 t508 t509 t510 (rd x6_2 x7_2) t528 true _ A51.out).mono ?_);rintro e w56 ⟨rfl,hb⟩;refine ⟨_,rfl,?_⟩;have n0_:=Aside0.mk (Kd.B_below q113_ hb);have n1_:=Aside0.mk (Kd.R_below q114_ hb);have n2_:=Aside0.mk (blk_below (g:=gb512) (o:=.cells #[.int .i64 t508,.bool t509,.int .i64 t510] 30 (0,0)) q84_ hb);have n3_:=Aside0.mk (below_step q55_ hb);clear HO_5;clear HO_6;clear BK512;clear HB;have HO_5:=n0_;have HO_6:=n1_;have BK512:=n2_;have HB:=n3_;clear n0_ n1_ n2_ n3_;(try clear hb)) | ((with_reducible refine gate_callee (f:=84) rfl ?_);refine goesL_ (some 89) rfl rfl Tryz.func84 (by kernel_rfl) rfl #[.int .i64 t528,.int .i64 (wrap64 (Int.tdiv (rd x6_2 x7_2) 256))] rfl (by (try simp only [List.map_toArray,List.map_cons,List.map_nil]);first | done | rfl | (simp only [List.length_drop,List.length_take];rfl) | (refine Eq.trans (b:=#[.int .i64 t528,.int .i64 ((Int.tdiv (rd x6_2 x7_2) 256))]) rfl ?_;simp [wrap64] <;> omega)) ?_;(with_reducible refine (impl_placeFrom.calls t528 (wrap64 (Int.tdiv (rd x6_2 x7_2) 256)) t530 _ A53.out).mono ?_);rintro e w' ⟨rfl,⟨nd,rfl⟩⟩;refine ⟨_,rfl,?_⟩) | ((with_reducible refine gate_builtin (b:=.append) (xs:=#[.tmp 85,.tmp 90]) rfl ?_);(try (refine gate_guard (by rfl) ?_;dsimp only));at_builtin;refine Kd.R_append (Kd.int .i64) (w0:=w) w.heap.size rfl (.tmp 85) (.tmp 90) 40 2 (.int .i64 0) 8 rfl Tryz.underlying40 info2 rfl (by decide) (by omega) u6 x6_38 t530 [.int .i64 t530] (fun _ => True) (fun _ => False) rfl rfl ?aP (fun _ hk => hk.elim) ?aF ?aO ?aB ?aS ?aL ?_;(case aP => exact rfl);(case aB => exact q55_);(case aF => exact (fun _ _ => trivial));(case aO => exact q114_);(case aS => exact (below_size q55_));(case aL => have:=LMc54.out;omega);intro v532 w57 ho hb hg hat;rw [← Ny531.out] at ho;have n0_:=Aside0.mk (Kd.B_over' q113_ (Kd.R_typed q114_) (by decide) hg);have n1_:=Aside0.mk (blk_grown (g:=gb512) (o:=.cells #[.int .i64 t508,.bool t509,.int .i64 t510] 30 (0,0)) q84_ hg (Kd.R_ne HO_6.out BK512.out (by decide)));have n2_:=Aside0.mk (hb);have n3_:=Aside0.mk (ho);clear HO_5;clear BK512;clear HB;clear HO_6;have HO_5:=n0_;have BK512:=n1_;have HB:=n2_;have HO533:=n3_;clear n0_ n1_ n2_ n3_;clear ho hb hg hat))
        (try simp only [← hl5_38])
        go_roundg kj38
        case measure => have:=HJ2.out;have:=HK2.out;have:=HJ19.out;have:=HJ38.out;omega
        case rel => exact ⟨(y523),(y531),(wrap64 (x7_2 + 1)),q94_,H',⟨by have:=HJ2.out;have:=HK2.out;have:=HJ19.out;have:=HJ38.out;omega⟩,⟨q71_⟩,⟨by (try simp only [hl5_38]);(with_reducible repeat (first | apply Kd.R_alloc | apply Kd.R_drewN | apply Kd.R_drew));exact HO533.out⟩,⟨q55_⟩⟩
       replace c52:=Bool.eq_false_iff.mpr c52
       subst c52
       rewrite [if_neg (show ¬ (false = true) by decide)] at H
       have H':=Aside0.mk H
       clear H
       have hcz58_0:wc.cell? ⟨gb512,0,none⟩ = some (.int .i64 t508):=bz_ BK512 0
       have hcz58_1:wc.cell? ⟨gb512,1,none⟩ = some (.bool t509):=bz_ BK512 1
       have hcz58_2:wc.cell? ⟨gb512,2,none⟩ = some (.int .i64 t510):=bz_ BK512 2
       have hfz58_0:=blk_frozen BK512.out 0
       have hfz58_1:=blk_frozen BK512.out 1
       have hfz58_2:=blk_frozen BK512.out 2
       go_wp2_with (first | ((with_reducible refine gate_callee (f:=83) rfl ?_);refine goesL_ (some 81) rfl rfl Tryz.func83 (by kernel_rfl) rfl #[.agg #[.int .i64 t508,.bool t509,.int .i64 t510],.int .i64 (rd x6_2 x7_2)] rfl q68_ ?_;(with_reducible refine (impl_jumps.calls kj38 t508 t509 t510 (rd x6_2 x7_2) t528 false _ A51.out).mono ?_);rintro e w59 ⟨rfl,hb⟩;refine ⟨_,rfl,?_⟩;have n0_:=Aside0.mk (Kd.B_below q113_ hb);have n1_:=Aside0.mk (Kd.R_below q114_ hb);have n2_:=Aside0.mk (blk_below (g:=gb512) (o:=.cells #[.int .i64 t508,.bool t509,.int .i64 t510] 30 (0,0)) q84_ hb);have n3_:=Aside0.mk (below_step q55_ hb);clear HO_5;clear HO_6;clear BK512;clear HB;have HO_5:=n0_;have HO_6:=n1_;have BK512:=n2_;have HB:=n3_;clear n0_ n1_ n2_ n3_;(try clear hb)))
       (try simp only [← hl5_38])
       go_roundg kj38
       case measure => have:=HJ2.out;have:=HK2.out;have:=HJ19.out;have:=HJ38.out;omega
       case rel => exact ⟨(y523),(x6_38),(wrap64 (x7_2 + 1)),q94_,H',⟨by have:=HJ2.out;have:=HK2.out;have:=HJ19.out;have:=HJ38.out;omega⟩,⟨q71_⟩,⟨by (try simp only [hl5_38]);(with_reducible repeat (first | apply Kd.R_alloc | apply Kd.R_drewN | apply Kd.R_drew));exact HO_6.out⟩,⟨q55_⟩⟩
    replace c18:=Bool.eq_false_iff.mpr c18
    subst c18
    rewrite [if_neg (show ¬ (false = true) by decide)] at H
    have H':=Aside0.mk H
    clear H
    obtain ⟨Ao60,co60,eo60⟩:=Kd.R_slice HO_6.out
    subst eo60
    have p506:0 ≤ (x7_2:Int):=of_decide_eq_true q119_
    have q506:x7_2 < (x6_2.length:Int):=of_decide_eq_true q119_
    obtain ⟨ad506,e506,hx506_0⟩:=Kd.at_int (Kd.R_reads' HO_6.out).2.2 x7_2 p506 q506
    cases e506
    replace p506:=eq_true p506
    replace q506:=eq_true q506
    go_wp2_with (first | ((with_reducible refine gate_callee (f:=61) rfl ?_);refine goesL_ (some 42) rfl rfl Tryz.func61 (by kernel_rfl) rfl #[.int .i64 (rd x6_2 x7_2),.int .i64 0,.int .i64 (wrap64 ((a0.size:Int) - 1))] rfl q7_ ?_;(with_reducible refine (impl_within.calls (rd x6_2 x7_2) 0 (wrap64 ((a0.size:Int) - 1)) false _ A17.out).mono ?_);rintro e w' ⟨rfl,⟨nd,rfl⟩⟩;refine ⟨_,rfl,?_⟩))
    go_roundg k2
    case measure => have:=HJ2.out;have:=HK2.out;omega
    case rel => exact ⟨(x5_2),(x6_2),(wrap64 (x7_2 + 1)),q94_,H',⟨by have:=HJ2.out;have:=HK2.out;omega⟩,⟨q113_⟩,⟨q114_⟩,⟨q70_⟩⟩
   rw [if_neg c15] at H
   have c15b0:=decide_eq_false c15
   clear c15
   obtain rfl:=Option.some.inj H
   obtain ⟨Ao61,co61,eo61⟩:=Kd.R_slice HO_6.out
   subst eo61
   have hcv62:=Kd.B_string (P:=Tryz.prog) Tryz.underlying22 Tryz.underlying5 Tryz.underlying9 HO_5.out
   go_wp2
   go_ret
   exact ⟨q75_,q70_⟩
end Go.Proofs.YtodlnnoekccmmaaGreatDoor.QFnMarks
