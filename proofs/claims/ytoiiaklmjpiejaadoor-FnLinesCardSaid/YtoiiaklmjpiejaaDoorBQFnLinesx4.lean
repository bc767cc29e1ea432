/- The machine's side of a law,written by a program of this session for this claim. -/
import Derived.Test.YtoiiaklmjpiejaaDoorBQq
import Derived.Test.YtoiiaklmjpiejaaDoorBQFnLinesx0
import Derived.Test.YtoiiaklmjpiejaaDoorBQFnLinesx3
namespace Go.Proofs.YtoiiaklmjpiejaaDoor.QFnLines
open Go.Proofs.YtoiiaklmjpiejaaDoor.Qq
open Go.RowKit Go.Proofs.YtoiiaklmjpiejaaDoor.LibX Go.Proofs.YtoiiaklmjpiejaaDoor.LibE Go.Proofs.YtoiiaklmjpiejaaDoor.LibCB Go.Proofs.YtoiiaklmjpiejaaDoor.LibT Go.Proofs.YtoiiaklmjpiejaaDoorW.PrintWords Go.Proofs.YtoiiaklmjpiejaaDoorW.PrintLast Go.Proofs.YtoiiaklmjpiejaaDoorW.PrintMore
attribute [local go_sem] max2_int min2_int max_two min_two max_three min_three max_four min_four   -- for this text's walks alone
set_option maxHeartbeats 8000000
set_option maxRecDepth 100000
set_option linter.unusedVariables false
set_option linter.unusedSimpArgs false
def spec_DrawLineText.f (k:Nat) (l0:List Int):Option (ByteArray × ByteArray × ByteArray):=(spec_DrawLineOk.f k l0).bind fun bt157 => (some (bt157.1,bt157.2.1,bt157.2.2))
theorem spec_DrawLineText.calls (k:Nat) (A0:Option Addr) (c0:Nat) (l0:List Int) (r1:ByteArray) (r2:ByteArray) (r3:ByteArray) (w:World) (hr0:Kd.C (Kd.int .u8) w A0 l0.length l0) (hc0:l0.length ≤ c0) (h:spec_DrawLineText.f k l0 = some (r1,r2,r3)) :
  Calls Tryd.prog 11 #[.slice A0 l0.length c0] w fun e w' => e = .returned (.agg #[.string r1,.string r2,.string r3]) ∧ Below w.heap.size w w':=by
 have hu29:=Tryd.underlying29
 have HR0:=Aside0.mk hr0
 have HC0:=Aside0.mk hc0
 clear hr0 hc0
 have HB:=Aside0.mk (Below.refl w.heap.size w)
 have H:=h;unfold spec_DrawLineText.f at H
 clear h
 replace H:=Option.bind_eq_some_iff.mp H
 obtain ⟨⟨t157,t158,t159⟩,A20,H⟩:=H
 try dsimp -simprocs -eta only at H
 have A2:=Aside0.mk A20
 clear A20
 simp only [Option.some.injEq,Prod.mk.injEq] at H
 obtain ⟨rfl,rfl,rfl⟩:=H
 go_enter Tryd.func11,Tryd.ntmps11
 go_wp2_with (first | ((with_reducible refine gate_dst (N:=2) rfl ?_);refine box_event ?hg (N:=2) ?hd (cs:=#[.string (⟨#[]⟩:ByteArray),.string (⟨#[]⟩:ByteArray),.string (⟨#[]⟩:ByteArray)]) (t:=29) ?hr ?_;(case hd => rfl);(case hg => rfl);(case hr => exact q130_);intro gb156 hg w3 hbox hb;have n0_:=Aside0.mk (below_step q83_ hb);have n1_:=Aside0.mk (hbox);have n2_:=Aside0.mk ((q64_:w.heap.size ≤ gb156));have n3_:=Aside0.mk ((q64_:w.heap.size ≤ gb156));clear HB;have HB:=n0_;have BK156:=n1_;have GW156:=n2_;have GE156:=n3_;clear n0_ n1_ n2_ n3_;clear hb hbox hg) | ((with_reducible refine gate_callee (f:=35) rfl ?_);refine goesL_ (some 4) rfl rfl Tryd.func35 (by kernel_rfl) rfl #[.slice A0 l0.length c0] rfl q82_ ?_;(with_reducible refine (spec_DrawLineOk.calls k _ _ l0 t157 t158 t159 _ ?side1 ?side2 A2.out).mono ?_);(case side1 => exact q125_);(case side2 => exact HC0.out);rintro e w4 ⟨rfl,hb⟩;refine ⟨_,rfl,?_⟩;have n0_:=Aside0.mk (blk_below (g:=gb156) (o:=.cells #[.string (⟨#[]⟩:ByteArray),.string (⟨#[]⟩:ByteArray),.string (⟨#[]⟩:ByteArray)] 29 (0,0)) (by (with_reducible repeat (first | refine blk_drewN ?_ _ | refine blk_drew ?_ | refine blk_alloc ?_ _));exact BK156.out) hb);have n1_:=Aside0.mk (below_step q65_ hb);clear BK156;clear HB;have BK156:=n0_;have HB:=n1_;clear n0_ n1_;(try clear hb);have hcz5_0:w4.cell? ⟨gb156,0,none⟩ = some (.string (⟨#[]⟩:ByteArray)):=(blk_cell BK156.out 0).trans rfl;have hcz5_1:w4.cell? ⟨gb156,1,none⟩ = some (.string (⟨#[]⟩:ByteArray)):=(blk_cell BK156.out 1).trans rfl;have hcz5_2:w4.cell? ⟨gb156,2,none⟩ = some (.string (⟨#[]⟩:ByteArray)):=(blk_cell BK156.out 2).trans rfl;have hfz5_0:=blk_frozen BK156.out 0;have hfz5_1:=blk_frozen BK156.out 1;have hfz5_2:=blk_frozen BK156.out 2))
 refine bodyPost_ret (results_cell_row rfl _ _ gb156 29 #[.string t157,.string t158,.string t159] (0,0) _ rfl (by (with_reducible repeat (first | refine blk_drewN ?_ _ | refine blk_drew ?_ | refine blk_alloc ?_ _));refine blk_put (cs:=#[.string t157,.string t158,.string (⟨#[]⟩:ByteArray)]) ?_ 2 _ rfl;(with_reducible repeat (first | refine blk_drewN ?_ _ | refine blk_drew ?_ | refine blk_alloc ?_ _));refine blk_put (cs:=#[.string t157,.string (⟨#[]⟩:ByteArray),.string (⟨#[]⟩:ByteArray)]) ?_ 1 _ rfl;(with_reducible repeat (first | refine blk_drewN ?_ _ | refine blk_drew ?_ | refine blk_alloc ?_ _));refine blk_put (cs:=#[.string (⟨#[]⟩:ByteArray),.string (⟨#[]⟩:ByteArray),.string (⟨#[]⟩:ByteArray)]) ?_ 0 _ rfl;(with_reducible repeat (first | refine blk_drewN ?_ _ | refine blk_drew ?_ | refine blk_alloc ?_ _));exact BK156.out) Tryd.underlying29 rfl (by kernel_rfl)) rfl ?_
 exact ⟨q84_,q65_⟩
mutual
def impl_areArgs.l0:Nat → ByteArray → Int → Int → Option (Bool)
 | 0,_,_,_ => none
 | k + 1,x0,x5,x6 => if x6 < x5 then (if 0 ≤ x6 then (if x6 < (x0.size:Int) then (if (bt x0 x6) < 32 then (impl_areArgs.j1 k x0 x5 x6 true) else (if (bt x0 x6) > 126 then (impl_areArgs.j1 k x0 x5 x6 true) else (impl_areArgs.j1 k x0 x5 x6 ((bt x0 x6) == 59)))) else (none)) else (none)) else ((impl_tidied.f x0).bind fun t160 => (some (t160.toList == x0.toList)))
def impl_areArgs.j1:Nat → ByteArray → Int → Int → Bool → Option (Bool)
 | 0,_,_,_,_ => none
 | k + 1,x0,x5,x6,x24 => if x24 = true then (some false) else (impl_areArgs.l0 k x0 x5 (wrap64 (x6 + 1)))
end
def impl_areArgs.f (k:Nat) (a0:ByteArray):Option (Bool):=impl_areArgs.l0 k a0 (a0.size:Int) 0
theorem impl_areArgs.calls (k:Nat) (a0:ByteArray) (r:Bool) (w:World) (h:impl_areArgs.f k a0 = some r) (hG:Go.Proofs.YtoiiaklmjpiejaaDoor.LibW.GL w:=by first | exact hG | exact hG.below q18_ | exact hG.drewN _) :
  Calls Tryd.prog 31 #[.string a0] w fun e w' => e = .returned (.bool r) ∧ Below w.heap.size w w':=by
 have HB:=Aside0.mk (Below.refl w.heap.size w)
 have H:(impl_areArgs.l0 k a0 (a0.size:Int) 0) = some r:=h
 clear h
 have H':=Aside0.mk H
 clear H
 go_enter Tryd.func31,Tryd.ntmps31
 go_wp2
 go_loopg [6] k (fun kq v6 w' => ∃ (x6_1:Int),v6 = .int .i64 x6_1 ∧ Aside0 (impl_areArgs.l0 kq a0 (a0.size:Int) x6_1 = some r) ∧ Aside0 (kq ≤ k) ∧ Aside0 (Below w.heap.size w w'))
 case atStart => exact ⟨(0),q101_,H',⟨Nat.le_refl _⟩,⟨q83_⟩⟩
 clear H'
 obtain ⟨x6_1,rfl,HA,HK1,HB⟩:=hrel
 cases gk with
 | zero => exact absurd HA.out (by simp [impl_areArgs.l0])
 | succ k1 =>
  have H:=HA.out
  clear HA
  simp only [impl_areArgs.l0] at H
  by_cases c2:x6_1 < (a0.size:Int)
  ·rw [if_pos c2] at H
   have c2b0:=decide_eq_true c2
   clear c2
   have HC3:=Aside0.mk H
   clear H
   go_upto_region 4 with (fail)
   go_cut [24] (fun v24 wc => ∃ (kq:Nat) (x24_2:Bool),v24 = .bool x24_2 ∧ Aside0 (impl_areArgs.j1 kq a0 (a0.size:Int) x6_1 x24_2 = some r) ∧ Aside0 (kq ≤ k1) ∧ Aside0 (Below w.heap.size w wc))
   case first =>
    have H:=HC3.out
    clear HC3
    by_cases c4:0 ≤ x6_1
    rotate_left
    ·rw [if_neg c4] at H
     exact absurd H (by simp)
    rw [if_pos c4] at H
    have c4b0:=decide_eq_true c4
    clear c4
    (first | rw [c4b0] | (simp only [i64_w,i32_w];rw [c4b0]) | rw [c4b9] | skip)
    by_cases c5:x6_1 < (a0.size:Int)
    rotate_left
    ·rw [if_neg c5] at H
     exact absurd H (by simp)
    rw [if_pos c5] at H
    have c5b0:=decide_eq_true c5
    clear c5
    by_cases c7:(bt a0 x6_1) < 32
    ·rw [if_pos c7] at H
     have c7b0:=decide_eq_true c7
     clear c7
     have H':=Aside0.mk H
     clear H
     have p6:0 ≤ (x6_1:Int):=of_decide_eq_true q113_
     have q6:x6_1 < (a0.size:Int):=of_decide_eq_true q113_
     have hx6:=bt_at a0 x6_1
     replace p6:=eq_true p6
     replace q6:=eq_true q6
     go_wp2
     go_meet
     case rel => exact ⟨_,(true),q101_,H',⟨q110_⟩,⟨q83_⟩⟩
    rw [if_neg c7] at H
    have c7b0:=decide_eq_false c7
    clear c7
    by_cases c9:(bt a0 x6_1) > 126
    ·rw [if_pos c9] at H
     have c9b0:decide (126 < (bt a0 x6_1)) = true:=decide_eq_true c9
     clear c9
     have H':=Aside0.mk H
     clear H
     have p6:0 ≤ (x6_1:Int):=of_decide_eq_true q113_
     have q6:x6_1 < (a0.size:Int):=of_decide_eq_true q113_
     have hx6:=bt_at a0 x6_1
     replace p6:=eq_true p6
     replace q6:=eq_true q6
     have p8:0 ≤ (x6_1:Int):=of_decide_eq_true q113_
     have q8:x6_1 < (a0.size:Int):=of_decide_eq_true q113_
     have hx8:=bt_at a0 x6_1
     replace p8:=eq_true p8
     replace q8:=eq_true q8
     go_wp2
     go_meet
     case rel => exact ⟨_,(true),q101_,H',⟨q110_⟩,⟨q83_⟩⟩
    rw [if_neg c9] at H
    have c9b0:decide (126 < (bt a0 x6_1)) = false:=decide_eq_false c9
    clear c9
    have H':=Aside0.mk H
    clear H
    have p6:0 ≤ (x6_1:Int):=of_decide_eq_true q113_
    have q6:x6_1 < (a0.size:Int):=of_decide_eq_true q113_
    have hx6:=bt_at a0 x6_1
    replace p6:=eq_true p6
    replace q6:=eq_true q6
    have p8:0 ≤ (x6_1:Int):=of_decide_eq_true q113_
    have q8:x6_1 < (a0.size:Int):=of_decide_eq_true q113_
    have hx8:=bt_at a0 x6_1
    replace p8:=eq_true p8
    replace q8:=eq_true q8
    have p10:0 ≤ (x6_1:Int):=of_decide_eq_true q113_
    have q10:x6_1 < (a0.size:Int):=of_decide_eq_true q113_
    have hx10:=bt_at a0 x6_1
    replace p10:=eq_true p10
    replace q10:=eq_true q10
    go_wp2
    go_meet
    case rel => exact ⟨_,(((bt a0 x6_1) == 59)),q101_,H',⟨q110_⟩,⟨q83_⟩⟩
   clear HC3
   try clear p1
   try clear q1
   try clear hx1
   try clear c2
   try clear c2b0
   try clear p2
   try clear c3
   try clear c4
   try clear c4b0
   try clear c5
   try clear c5b0
   try clear p6 p6
   try clear q6 q6
   try clear hx6
   try clear c7
   try clear c7b0
   try clear p8 p8
   try clear q8 q8
   try clear hx8
   try clear c9
   try clear c9b0
   try clear p10 p10
   try clear q10 q10
   try clear hx10
   obtain ⟨kq,x24_2,rfl,HA,HJ2,HB⟩:=hcut
   cases kq with
   | zero => exact absurd HA.out (by simp [impl_areArgs.j1])
   | succ kj2 =>
    have H:=HA.out
    clear HA
    simp only [impl_areArgs.j1] at H
    by_cases c11:x24_2 = true
    ·subst c11
     rewrite [if_pos rfl] at H
     obtain rfl:=Option.some.inj H
     go_wp2
     go_ret
     exact ⟨q84_,q83_⟩
    replace c11:=Bool.eq_false_iff.mpr c11
    subst c11
    rewrite [if_neg (show ¬ (false = true) by decide)] at H
    have H':=Aside0.mk H
    clear H
    go_wp2
    go_roundg kj2
    case measure => have:=HK1.out;have:=HJ2.out;omega
    case rel => exact ⟨(wrap64 (x6_1 + 1)),q101_,H',⟨q114_⟩,⟨q83_⟩⟩
  rw [if_neg c2] at H
  have c2b0:=decide_eq_false c2
  clear c2
  replace H:=Option.bind_eq_some_iff.mp H
  obtain ⟨t160,A120,H⟩:=H
  have A12:=Aside0.mk A120
  clear A120
  obtain rfl:=Option.some.inj H
  go_wp2_with (first | ((with_reducible refine gate_callee (f:=44) rfl ?_);refine goesL_ (some 27) rfl rfl Tryd.func44 (by kernel_rfl) rfl #[.string a0] rfl q82_ ?_;(with_reducible refine (impl_tidied.calls a0 t160 _ A12.out).mono ?_);rintro e w13 ⟨rfl,hb⟩;refine ⟨_,rfl,?_⟩;replace HB:=Aside0.mk (below_step q83_ hb);(try clear hb)))
  go_ret
  exact ⟨q84_,q83_⟩
mutual
def impl_lineText.j0:Nat → List ByteArray → ByteArray → ByteArray → ByteArray → Option (ByteArray)
 | 0,_,_,_,_ => none
 | k + 1,x3,x162000,x162001,x162002 => if x162001.toList = ([]:List UInt8) then (impl_lineText.j1 k x3 x162000 x162001 x162002) else (if x3.length < 8796093022208 then (impl_lineText.j1 k (x3 ++ [x162001]) x162000 x162001 x162002) else (none))
def impl_lineText.j1:Nat → List ByteArray → ByteArray → ByteArray → ByteArray → Option (ByteArray)
 | 0,_,_,_,_ => none
 | k + 1,x3,x162000,x162001,x162002 => if x162002.toList = ([]:List UInt8) then ((strings_Join.f x3 (⟨#[32]⟩:ByteArray)).bind fun t171 => (some t171)) else (if x3.length < 8796093022208 then ((strings_Join.f (x3 ++ [x162002]) (⟨#[32]⟩:ByteArray)).bind fun t175 => (some t175)) else (none))
end
def impl_lineText.f (k:Nat) (a0_0:ByteArray) (a0_1:ByteArray) (a0_2:ByteArray):Option (ByteArray):=(some (([]:List ByteArray):List ByteArray)).bind fun y162 => (if a0_0.toList = ([]:List UInt8) then (impl_lineText.j0 k y162 a0_0 a0_1 a0_2) else (if a0_0.size + 1 ≤ 9223372036854775807 then (if y162.length < 8796093022208 then (impl_lineText.j0 k (y162 ++ [a0_0 ++ (⟨#[58]⟩:ByteArray)]) a0_0 a0_1 a0_2) else (none)) else (none)))
theorem impl_lineText.calls (k:Nat) (a0_0:ByteArray) (a0_1:ByteArray) (a0_2:ByteArray) (r:ByteArray) (w:World) (h:impl_lineText.f k a0_0 a0_1 a0_2 = some r) :
  Calls Tryd.prog 36 #[.agg #[.string a0_0,.string a0_1,.string a0_2]] w fun e w' => e = .returned (.string r) ∧ Below w.heap.size w w':=by
 have hu29:=Tryd.underlying29
 have HB:=Aside0.mk (Below.refl w.heap.size w)
 have H:=h;unfold impl_lineText.f at H
 clear h
 obtain ⟨y162,hy162⟩:∃ y_:List ByteArray,y_ = (([]:List ByteArray)):=⟨_,rfl⟩
 replace H:(if a0_0.toList = ([]:List UInt8) then (impl_lineText.j0 k y162 a0_0 a0_1 a0_2) else (if a0_0.size + 1 ≤ 9223372036854775807 then (if y162.length < 8796093022208 then (impl_lineText.j0 k (y162 ++ [a0_0 ++ (⟨#[58]⟩:ByteArray)]) a0_0 a0_1 a0_2) else (none)) else (none))) = some r:=by first | (rw [hy162];exact H) | exact H
 have Ny162:=Aside0.mk hy162
 clear hy162
 have HC2:=Aside0.mk H
 clear H
 go_enter Tryd.func36,Tryd.ntmps36
 go_upto_if 7 with (first | ((with_reducible refine gate_dst (N:=1) rfl ?_);refine box_event ?hg (N:=1) ?hd (cs:=#[.string a0_0,.string a0_1,.string a0_2]) (t:=29) ?hr ?_;(case hd => rfl);(case hg => rfl);(case hr => exact q130_);intro gb161 hg w3 hbox hb;have n0_:=Aside0.mk (below_step q83_ hb);have n1_:=Aside0.mk (hbox);have n2_:=Aside0.mk ((q64_:w.heap.size ≤ gb161));have n3_:=Aside0.mk ((q64_:w.heap.size ≤ gb161));clear HB;have HB:=n0_;have BK161:=n1_;have GW161:=n2_;have GE161:=n3_;clear n0_ n1_ n2_ n3_;clear hb hbox hg) | ((with_reducible refine gate_dst (N:=4) rfl ?_);refine Kd.R_lit Kd.string _ 9 ?hg (N:=4) ?hd (xs:=([]:List ByteArray)) (inner:=[]) (ok:=fun _ => True) (okp:=fun _ => True) ?hr ?hp (fun _ hk => hk) trivial (Below.refl _ _) (Nat.le_refl _) (by simp) ?_;(case hd => rfl);(case hg => rfl);(case hr => exact q130_);(case hp => exact (Reps.none _ _));intro v163 w4 ho5 hb hg_ hnew_;clear hg_ hnew_;(first | rw [← Ny162.out] at ho5 | (simp only [Int.reduceToNat] at ho5;rw [← Ny162.out] at ho5));have n0_:=Aside0.mk (Kd.R_lower ho5 (below_size q66_));have n1_:=Aside0.mk (blk_below (g:=gb161) (o:=.cells #[.string a0_0,.string a0_1,.string a0_2] 29 (0,0)) q87_ hb);have n2_:=Aside0.mk (below_step q66_ hb);clear BK161;clear HB;have HO164:=n0_;have BK161:=n1_;have HB:=n2_;clear n0_ n1_ n2_;clear hb ho5;have hcz6_0:w4.cell? ⟨gb161,0,none⟩ = some (.string a0_0):=(blk_cell BK161.out 0).trans rfl;have hcz6_1:w4.cell? ⟨gb161,1,none⟩ = some (.string a0_1):=(blk_cell BK161.out 1).trans rfl;have hcz6_2:w4.cell? ⟨gb161,2,none⟩ = some (.string a0_2):=(blk_cell BK161.out 2).trans rfl;have hfz6_0:=blk_frozen BK161.out 0;have hfz6_1:=blk_frozen BK161.out 1;have hfz6_2:=blk_frozen BK161.out 2))
 (try simp only [Act.put,List.setIfInBounds_toArray,List.set_cons_zero,List.set_cons_succ])
 go_cut [3] (fun v3 wc => ∃ (kq:Nat) (x3_1:List ByteArray),Aside0 (impl_lineText.j0 kq x3_1 a0_0 a0_1 a0_2 = some r) ∧ Aside0 (kq ≤ k) ∧ Aside0 (Kd.R Kd.string 9 wc w.heap.size (fun _ => True) v3 x3_1) ∧ Aside0 (wc.heap[gb161]? = some (.cells #[.string a0_0,.string a0_1,.string a0_2] 29 (0,0))) ∧ Aside0 (Below w.heap.size w wc))
 case first =>
  have H:=HC2.out
  clear HC2
  by_cases c7:a0_0.toList = ([]:List UInt8)
  ·rw [if_pos c7] at H
   have c7b0:(a0_0.toList == ([]:List UInt8)) = true:=beq_iff_eq.mpr c7
   have c7b1:(a0_0.toList != ([]:List UInt8)) = false:=bne_eq_false_iff_eq.mpr c7
   have c7b9:a0_0.toList.isEmpty = true:=(isEmpty_beq _).trans c7b0
   clear c7
   (first | rw [c7b0] | (simp only [i64_w,i32_w];rw [c7b0]) | rw [c7b9] | skip)
   have H':=Aside0.mk H
   clear H
   go_wp2
   go_meet
   case rel => exact ⟨_,(y162),H',⟨q115_⟩,⟨by (with_reducible repeat (first | apply Kd.R_alloc | apply Kd.R_drewN | apply Kd.R_drew));exact HO164.out⟩,⟨q87_⟩,⟨q66_⟩⟩
  rw [if_neg c7] at H
  have c7b0:(a0_0.toList == ([]:List UInt8)) = false:=beq_eq_false_iff_ne.mpr c7
  have c7b1:(a0_0.toList != ([]:List UInt8)) = true:=bne_iff_ne.mpr c7
  have c7b9:a0_0.toList.isEmpty = false:=(isEmpty_beq _).trans c7b0
  (first | rw [c7b0] | (simp only [i64_w,i32_w];rw [c7b0]) | rw [c7b9] | skip)
  by_cases c8:a0_0.size + 1 ≤ 9223372036854775807
  rotate_left
  ·rw [if_neg c8] at H
   exact absurd H (by simp)
  rw [if_pos c8] at H
  have c8b0:=eq_true c8
  have c8b1:=decide_eq_true c8
  try have c8b2:(9223372036854775807 < a0_0.size + 1) = False:=eq_false (Nat.not_lt.2 c8)
  by_cases c9:y162.length < 8796093022208
  rotate_left
  ·rw [if_neg c9] at H
   exact absurd H (by simp)
  rw [if_pos c9] at H
  have LMc9:=Aside0.mk c9
  clear c9
  obtain ⟨y165,hy165⟩:∃ y_:List ByteArray,y_ = (y162 ++ [a0_0 ++ (⟨#[58]⟩:ByteArray)]):=⟨_,rfl⟩
  replace H:(impl_lineText.j0 k y165 a0_0 a0_1 a0_2) = some r:=by first | (rw [hy165];exact H) | exact H
  have Ny165:=Aside0.mk hy165
  clear hy165
  have H':=Aside0.mk H
  clear H
  have hcz10_0:w4.cell? ⟨gb161,0,none⟩ = some (.string a0_0):=bz_ BK161 0
  have hcz10_1:w4.cell? ⟨gb161,1,none⟩ = some (.string a0_1):=bz_ BK161 1
  have hcz10_2:w4.cell? ⟨gb161,2,none⟩ = some (.string a0_2):=bz_ BK161 2
  have hfz10_0:=blk_frozen BK161.out 0
  have hfz10_1:=blk_frozen BK161.out 1
  have hfz10_2:=blk_frozen BK161.out 2
  go_wp2_with (first | ((with_reducible refine gate_builtin (b:=.append) (xs:=#[.tmp 8,.tmp 12]) rfl ?_);at_builtin;refine Kd.R_append Kd.string (w0:=w) w.heap.size rfl (.tmp 8) (.tmp 12) 25 9 (.string ⟨#[]⟩) 16 rfl Tryd.underlying25 info9 rfl (by decide) (by omega) v163 y162 (a0_0 ++ (⟨#[58]⟩:ByteArray)) [.string (a0_0 ++ (⟨#[58]⟩:ByteArray))] (fun _ => True) (fun _ => False) rfl rfl ?aP (fun _ hk => hk.elim) ?aF ?aO ?aB ?aS ?aL ?_;(case aP => exact rfl);(case aB => exact q66_);(case aF => exact (fun _ _ => trivial));(case aO => exact (by (with_reducible repeat (first | apply Kd.R_alloc | apply Kd.R_drewN | apply Kd.R_drew));exact HO164.out));(case aS => exact (below_size q66_));(case aL => have:=LMc9.out;omega);intro v166 w11 ho hb hg hat;rw [← Ny165.out] at ho;have n0_:=Aside0.mk (blk_grown (g:=gb161) (o:=.cells #[.string a0_0,.string a0_1,.string a0_2] 29 (0,0)) q87_ hg (Kd.R_ne HO164.out BK161.out (by decide)));have n1_:=Aside0.mk (hb);have n2_:=Aside0.mk (ho);clear BK161;clear HB;clear HO164;have BK161:=n0_;have HB:=n1_;have HO167:=n2_;clear n0_ n1_ n2_;clear ho hb hg hat))
  go_meet
  case rel => exact ⟨_,(y165),H',⟨q115_⟩,⟨by (with_reducible repeat (first | apply Kd.R_alloc | apply Kd.R_drewN | apply Kd.R_drew));exact HO167.out⟩,⟨q87_⟩,⟨q66_⟩⟩
 clear HC2
 try clear p2
 try clear c3
 try clear c7
 try clear c7b0
 try clear c7b1
 try clear c8
 try clear c8b0
 try clear c8b1
 try clear c8b2
 try clear c9
 try clear hcz10_0 hcz10_1 hcz10_2
 try clear hcz6_0 hcz6_1 hcz6_2
 try clear hfz10_0 hfz10_1 hfz10_2
 try clear hfz6_0 hfz6_1 hfz6_2
 obtain ⟨kq,x3_1,HA,HJ1,HO_3,BK161,HB⟩:=hcut
 cases kq with
 | zero => exact absurd HA.out (by simp [impl_lineText.j0])
 | succ kj1 =>
  have H:=HA.out
  clear HA
  simp only [impl_lineText.j0] at H
  have HC12:=Aside0.mk H
  clear H
  have hcz13_0:wc.cell? ⟨gb161,0,none⟩ = some (.string a0_0):=bz_ BK161 0
  have hcz13_1:wc.cell? ⟨gb161,1,none⟩ = some (.string a0_1):=bz_ BK161 1
  have hcz13_2:wc.cell? ⟨gb161,2,none⟩ = some (.string a0_2):=bz_ BK161 2
  have hfz13_0:=blk_frozen BK161.out 0
  have hfz13_1:=blk_frozen BK161.out 1
  have hfz13_2:=blk_frozen BK161.out 2
  go_upto_if 16 with (fail)
  go_cut [3] (fun v3 wc => ∃ (kq:Nat) (x3_11:List ByteArray),Aside0 (impl_lineText.j1 kq x3_11 a0_0 a0_1 a0_2 = some r) ∧ Aside0 (kq ≤ kj1) ∧ Aside0 (Kd.R Kd.string 9 wc w.heap.size (fun _ => True) v3 x3_11) ∧ Aside0 (wc.heap[gb161]? = some (.cells #[.string a0_0,.string a0_1,.string a0_2] 29 (0,0))) ∧ Aside0 (Below w.heap.size w wc))
  case first =>
   have H:=HC12.out
   clear HC12
   by_cases c14:a0_1.toList = ([]:List UInt8)
   ·rw [if_pos c14] at H
    have c14b0:(a0_1.toList == ([]:List UInt8)) = true:=beq_iff_eq.mpr c14
    have c14b1:(a0_1.toList != ([]:List UInt8)) = false:=bne_eq_false_iff_eq.mpr c14
    have c14b9:a0_1.toList.isEmpty = true:=(isEmpty_beq _).trans c14b0
    clear c14
    (first | rw [c14b0] | (simp only [i64_w,i32_w];rw [c14b0]) | rw [c14b9] | skip)
    have H':=Aside0.mk H
    clear H
    go_wp2
    go_meet
    case rel => exact ⟨_,(x3_1),H',⟨q111_⟩,⟨q104_⟩,⟨q87_⟩,⟨q66_⟩⟩
   rw [if_neg c14] at H
   have c14b0:(a0_1.toList == ([]:List UInt8)) = false:=beq_eq_false_iff_ne.mpr c14
   have c14b1:(a0_1.toList != ([]:List UInt8)) = true:=bne_iff_ne.mpr c14
   have c14b9:a0_1.toList.isEmpty = false:=(isEmpty_beq _).trans c14b0
   (first | rw [c14b0] | (simp only [i64_w,i32_w];rw [c14b0]) | rw [c14b9] | skip)
   by_cases c15:x3_1.length < 8796093022208
   rotate_left
   ·rw [if_neg c15] at H
    exact absurd H (by simp)
   rw [if_pos c15] at H
   have LMc15:=Aside0.mk c15
   clear c15
   obtain ⟨y168,hy168⟩:∃ y_:List ByteArray,y_ = (x3_1 ++ [a0_1]):=⟨_,rfl⟩
   replace H:(impl_lineText.j1 kj1 y168 a0_0 a0_1 a0_2) = some r:=by first | (rw [hy168];exact H) | exact H
   have Ny168:=Aside0.mk hy168
   clear hy168
   have H':=Aside0.mk H
   clear H
   have hcz16_0:wc.cell? ⟨gb161,0,none⟩ = some (.string a0_0):=bz_ BK161 0
   have hcz16_1:wc.cell? ⟨gb161,1,none⟩ = some (.string a0_1):=bz_ BK161 1
   have hcz16_2:wc.cell? ⟨gb161,2,none⟩ = some (.string a0_2):=bz_ BK161 2
   have hfz16_0:=blk_frozen BK161.out 0
   have hfz16_1:=blk_frozen BK161.out 1
   have hfz16_2:=blk_frozen BK161.out 2
   go_wp2_with (first | ((with_reducible refine gate_builtin (b:=.append) (xs:=#[.tmp 17,.tmp 20]) rfl ?_);at_builtin;refine Kd.R_append Kd.string (w0:=w) w.heap.size rfl (.tmp 17) (.tmp 20) 25 9 (.string ⟨#[]⟩) 16 rfl Tryd.underlying25 info9 rfl (by decide) (by omega) u3 x3_1 a0_1 [.string a0_1] (fun _ => True) (fun _ => False) rfl rfl ?aP (fun _ hk => hk.elim) ?aF ?aO ?aB ?aS ?aL ?_;(case aP => exact rfl);(case aB => exact q66_);(case aF => exact (fun _ _ => trivial));(case aO => exact q104_);(case aS => exact (below_size q66_));(case aL => have:=LMc15.out;omega);intro v169 w17 ho hb hg hat;rw [← Ny168.out] at ho;have n0_:=Aside0.mk (blk_grown (g:=gb161) (o:=.cells #[.string a0_0,.string a0_1,.string a0_2] 29 (0,0)) q87_ hg (Kd.R_ne HO_3.out BK161.out (by decide)));have n1_:=Aside0.mk (hb);have n2_:=Aside0.mk (ho);clear BK161;clear HB;clear HO_3;have BK161:=n0_;have HB:=n1_;have HO170:=n2_;clear n0_ n1_ n2_;clear ho hb hg hat))
   go_meet
   case rel => exact ⟨_,(y168),H',⟨q111_⟩,⟨by (with_reducible repeat (first | apply Kd.R_alloc | apply Kd.R_drewN | apply Kd.R_drew));exact HO170.out⟩,⟨q87_⟩,⟨q66_⟩⟩
  clear HC12
  try clear c1
  try clear p2 p2
  try clear c3
  try clear c7
  try clear c7b0
  try clear c7b1
  try clear c8
  try clear c8b0
  try clear c8b1
  try clear c8b2
  try clear c9
  try clear c14
  try clear c14b0
  try clear c14b1
  try clear c15
  try clear hcz10_0 hcz10_1 hcz10_2
  try clear hcz13_0 hcz13_1 hcz13_2
  try clear hcz16_0 hcz16_1 hcz16_2
  try clear hcz6_0 hcz6_1 hcz6_2
  try clear hfz10_0 hfz10_1 hfz10_2
  try clear hfz13_0 hfz13_1 hfz13_2
  try clear hfz16_0 hfz16_1 hfz16_2
  try clear hfz6_0 hfz6_1 hfz6_2
  obtain ⟨kq,x3_11,HA,HJ11,HO_3,BK161,HB⟩:=hcut
  cases kq with
  | zero => exact absurd HA.out (by simp [impl_lineText.j1])
  | succ kj11 =>
   have H:=HA.out
   clear HA
   simp only [impl_lineText.j1] at H
   by_cases c18:a0_2.toList = ([]:List UInt8)
   ·rw [if_pos c18] at H
    have c18b0:(a0_2.toList == ([]:List UInt8)) = true:=beq_iff_eq.mpr c18
    have c18b1:(a0_2.toList != ([]:List UInt8)) = false:=bne_eq_false_iff_eq.mpr c18
    have c18b9:a0_2.toList.isEmpty = true:=(isEmpty_beq _).trans c18b0
    clear c18
    replace H:=Option.bind_eq_some_iff.mp H
    obtain ⟨t171,A190,H⟩:=H
    have A19:=Aside0.mk A190
    clear A190
    obtain rfl:=Option.some.inj H
    have hcz20_0:wc.cell? ⟨gb161,0,none⟩ = some (.string a0_0):=bz_ BK161 0
    have hcz20_1:wc.cell? ⟨gb161,1,none⟩ = some (.string a0_1):=bz_ BK161 1
    have hcz20_2:wc.cell? ⟨gb161,2,none⟩ = some (.string a0_2):=bz_ BK161 2
    have hfz20_0:=blk_frozen BK161.out 0
    have hfz20_1:=blk_frozen BK161.out 1
    have hfz20_2:=blk_frozen BK161.out 2
    obtain ⟨Ao21,co21,eo21⟩:=Kd.R_slice HO_3.out
    subst eo21
    go_wp2_with (first | ((with_reducible refine gate_callee (f:=57) rfl ?_);refine goesL_ (some 31) rfl rfl Tryd.func57 (by kernel_rfl) rfl #[.slice Ao21 x3_11.length co21,.string (⟨#[32]⟩:ByteArray)] rfl q82_ ?_;(with_reducible refine (strings_Join.calls _ _ x3_11 (⟨#[32]⟩:ByteArray) t171 _ ?side1 ?side2 A19.out).mono ?_);(case side1 => repeat (first | exact (Kd.R_reads' HO_3.out).2.2 | (with_reducible refine Kd.C_alloc ?_ _) | (with_reducible refine Kd.C_drewN ?_ _) | (with_reducible refine Kd.C_drew ?_)));(case side2 => exact (Kd.R_reads' HO_3.out).2.1);rintro e w22 ⟨rfl,hb⟩;refine ⟨_,rfl,?_⟩;have n0_:=Aside0.mk (Kd.R_below q104_ hb);have n1_:=Aside0.mk (blk_below (g:=gb161) (o:=.cells #[.string a0_0,.string a0_1,.string a0_2] 29 (0,0)) q87_ hb);have n2_:=Aside0.mk (below_step q66_ hb);clear HO_3;clear BK161;clear HB;have HO_3:=n0_;have BK161:=n1_;have HB:=n2_;clear n0_ n1_ n2_;(try clear hb)))
    go_ret
    exact ⟨q84_,q66_⟩
   rw [if_neg c18] at H
   have c18b0:(a0_2.toList == ([]:List UInt8)) = false:=beq_eq_false_iff_ne.mpr c18
   have c18b1:(a0_2.toList != ([]:List UInt8)) = true:=bne_iff_ne.mpr c18
   have c18b9:a0_2.toList.isEmpty = false:=(isEmpty_beq _).trans c18b0
   by_cases c23:x3_11.length < 8796093022208
   rotate_left
   ·rw [if_neg c23] at H
    exact absurd H (by simp)
   rw [if_pos c23] at H
   have LMc23:=Aside0.mk c23
   clear c23
   obtain ⟨y172,hy172⟩:∃ y_:List ByteArray,y_ = (x3_11 ++ [a0_2]):=⟨_,rfl⟩
   replace H:((strings_Join.f y172 (⟨#[32]⟩:ByteArray)).bind fun t175 => (some t175)) = some r:=by first | (rw [hy172];exact H) | exact H
   have Ny172:=Aside0.mk hy172
   clear hy172
   replace H:=Option.bind_eq_some_iff.mp H
   obtain ⟨t175,A240,H⟩:=H
   have A24:=Aside0.mk A240
   clear A240
   obtain rfl:=Option.some.inj H
   have hcz25_0:wc.cell? ⟨gb161,0,none⟩ = some (.string a0_0):=bz_ BK161 0
   have hcz25_1:wc.cell? ⟨gb161,1,none⟩ = some (.string a0_1):=bz_ BK161 1
   have hcz25_2:wc.cell? ⟨gb161,2,none⟩ = some (.string a0_2):=bz_ BK161 2
   have hfz25_0:=blk_frozen BK161.out 0
   have hfz25_1:=blk_frozen BK161.out 1
   have hfz25_2:=blk_frozen BK161.out 2
   go_wp2_with (first | ((with_reducible refine gate_builtin (b:=.append) (xs:=#[.tmp 25,.tmp 28]) rfl ?_);at_builtin;refine Kd.R_append Kd.string (w0:=w) w.heap.size rfl (.tmp 25) (.tmp 28) 25 9 (.string ⟨#[]⟩) 16 rfl Tryd.underlying25 info9 rfl (by decide) (by omega) u3 x3_11 a0_2 [.string a0_2] (fun _ => True) (fun _ => False) rfl rfl ?aP (fun _ hk => hk.elim) ?aF ?aO ?aB ?aS ?aL ?_;(case aP => exact rfl);(case aB => exact q66_);(case aF => exact (fun _ _ => trivial));(case aO => exact q104_);(case aS => exact (below_size q66_));(case aL => have:=LMc23.out;omega);intro v173 w26 ho hb hg hat;rw [← Ny172.out] at ho;have n0_:=Aside0.mk (blk_grown (g:=gb161) (o:=.cells #[.string a0_0,.string a0_1,.string a0_2] 29 (0,0)) q87_ hg (Kd.R_ne HO_3.out BK161.out (by decide)));have n1_:=Aside0.mk (hb);have n2_:=Aside0.mk (ho);clear BK161;clear HB;clear HO_3;have BK161:=n0_;have HB:=n1_;have HO174:=n2_;clear n0_ n1_ n2_;clear ho hb hg hat;obtain ⟨Ao27,co27,eo27⟩:=Kd.R_slice HO174.out;subst eo27) | ((with_reducible refine gate_callee (f:=57) rfl ?_);refine goesL_ (some 31) rfl rfl Tryd.func57 (by kernel_rfl) rfl #[.slice Ao27 y172.length co27,.string (⟨#[32]⟩:ByteArray)] rfl q82_ ?_;(with_reducible refine (strings_Join.calls _ _ y172 (⟨#[32]⟩:ByteArray) t175 _ ?side1 ?side2 A24.out).mono ?_);(case side1 => repeat (first | exact (Kd.R_reads' HO174.out).2.2 | (with_reducible refine Kd.C_alloc ?_ _) | (with_reducible refine Kd.C_drewN ?_ _) | (with_reducible refine Kd.C_drew ?_)));(case side2 => exact (Kd.R_reads' HO174.out).2.1);rintro e w28 ⟨rfl,hb⟩;refine ⟨_,rfl,?_⟩;have n0_:=Aside0.mk (Kd.R_below (by (with_reducible repeat (first | apply Kd.R_alloc | apply Kd.R_drewN | apply Kd.R_drew));exact HO174.out) hb);have n1_:=Aside0.mk (blk_below (g:=gb161) (o:=.cells #[.string a0_0,.string a0_1,.string a0_2] 29 (0,0)) q87_ hb);have n2_:=Aside0.mk (below_step q66_ hb);clear HO174;clear BK161;clear HB;have HO174:=n0_;have BK161:=n1_;have HB:=n2_;clear n0_ n1_ n2_;(try clear hb)))
   go_ret
   exact ⟨q84_,q66_⟩
def impl_within.f (a0:Int) (a1:Int) (a2:Int):Option (Bool):=if a0 ≥ a1 then (some (decide (a0 ≤ a2))) else (some false)
theorem impl_within.calls (a0:Int) (a1:Int) (a2:Int) (r:Bool) (w:World) (h:impl_within.f a0 a1 a2 = some r) :
  Calls Tryd.prog 58 #[.int .i64 a0,.int .i64 a1,.int .i64 a2] w fun e w' => e = .returned (.bool r) ∧ Drawn0 w w':=by
 have H:=h;unfold impl_within.f at H
 clear h
 by_cases c4:a0 ≥ a1
 ·rw [if_pos c4] at H
  have c4b0:decide (a1 ≤ a0) = true:=decide_eq_true c4
  clear c4
  obtain rfl:=Option.some.inj H
  go_enter Tryd.func58,Tryd.ntmps58
  go_wp2
  go_ret
  exact ⟨q101_,q108_⟩
 rw [if_neg c4] at H
 have c4b0:decide (a1 ≤ a0) = false:=decide_eq_false c4
 clear c4
 obtain rfl:=Option.some.inj H
 go_enter Tryd.func58,Tryd.ntmps58
 go_wp2
 go_ret
 exact ⟨q101_,q108_⟩
def impl_isDigit.f (a0:Int):Option (Bool):=if a0 ≥ 48 then (some (decide (a0 ≤ 57))) else (some false)
theorem impl_isDigit.calls (a0:Int) (r:Bool) (w:World) (h:impl_isDigit.f a0 = some r) :
  Calls Tryd.prog 59 #[.int .u8 a0] w fun e w' => e = .returned (.bool r) ∧ Drawn0 w w':=by
 have H:=h;unfold impl_isDigit.f at H
 clear h
 by_cases c2:a0 ≥ 48
 ·rw [if_pos c2] at H
  have c2b0:decide (48 ≤ a0) = true:=decide_eq_true c2
  clear c2
  obtain rfl:=Option.some.inj H
  go_enter Tryd.func59,Tryd.ntmps59
  go_wp2
  go_ret
  exact ⟨q101_,q108_⟩
 rw [if_neg c2] at H
 have c2b0:decide (48 ≤ a0) = false:=decide_eq_false c2
 clear c2
 obtain rfl:=Option.some.inj H
 go_enter Tryd.func59,Tryd.ntmps59
 go_wp2
 go_ret
 exact ⟨q101_,q108_⟩
def impl_isSmall.f (a0:Int):Option (Bool):=if a0 ≥ 97 then (some (decide (a0 ≤ 122))) else (some false)
theorem impl_isSmall.calls (a0:Int) (r:Bool) (w:World) (h:impl_isSmall.f a0 = some r) :
  Calls Tryd.prog 60 #[.int .u8 a0] w fun e w' => e = .returned (.bool r) ∧ Drawn0 w w':=by
 have H:=h;unfold impl_isSmall.f at H
 clear h
 by_cases c2:a0 ≥ 97
 ·rw [if_pos c2] at H
  have c2b0:decide (97 ≤ a0) = true:=decide_eq_true c2
  clear c2
  obtain rfl:=Option.some.inj H
  go_enter Tryd.func60,Tryd.ntmps60
  go_wp2
  go_ret
  exact ⟨q101_,q108_⟩
 rw [if_neg c2] at H
 have c2b0:decide (97 ≤ a0) = false:=decide_eq_false c2
 clear c2
 obtain rfl:=Option.some.inj H
 go_enter Tryd.func60,Tryd.ntmps60
 go_wp2
 go_ret
 exact ⟨q101_,q108_⟩
end Go.Proofs.YtoiiaklmjpiejaaDoor.QFnLines
