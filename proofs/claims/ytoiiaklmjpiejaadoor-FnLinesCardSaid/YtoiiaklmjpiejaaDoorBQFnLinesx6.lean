/- The machine's side of a law,written by a program of this session for this claim. -/
import Derived.Test.YtoiiaklmjpiejaaDoorBQq
import Derived.Test.YtoiiaklmjpiejaaDoorBQFnLinesx0
import Derived.Test.YtoiiaklmjpiejaaDoorBQFnLinesx4
import Derived.Test.YtoiiaklmjpiejaaDoorBQFnLinesx5
namespace Go.Proofs.YtoiiaklmjpiejaaDoor.QFnLines
open Go.Proofs.YtoiiaklmjpiejaaDoor.Qq
open Go.RowKit Go.Proofs.YtoiiaklmjpiejaaDoor.LibX Go.Proofs.YtoiiaklmjpiejaaDoor.LibE Go.Proofs.YtoiiaklmjpiejaaDoor.LibCB Go.Proofs.YtoiiaklmjpiejaaDoor.LibT Go.Proofs.YtoiiaklmjpiejaaDoorW.PrintWords Go.Proofs.YtoiiaklmjpiejaaDoorW.PrintLast Go.Proofs.YtoiiaklmjpiejaaDoorW.PrintMore
attribute [local go_sem] max2_int min2_int max_two min_two max_three min_three max_four min_four   -- for this text's walks alone
set_option maxHeartbeats 8000000
set_option maxRecDepth 100000
set_option linter.unusedVariables false
set_option linter.unusedSimpArgs false
def impl_LineOk.j0:Nat → Bool → ByteArray → ByteArray → ByteArray → Option (Bool)
 | 0,_,_,_,_ => none
 | k + 1,x39,x182000,x182001,x182002 => if x39 = true then (some false) else ((impl_lineText.f k x182000 x182001 x182002).bind fun t187 => (some (decide ((t187.size:Int) ≤ 80))))
def impl_LineOk.f (k:Nat) (a0_0:ByteArray) (a0_1:ByteArray) (a0_2:ByteArray):Option (Bool):=if a0_0.toList = ([]:List UInt8) then ((impl_isOp.f k a0_1 10).bind fun t182 => (if t182 = true then (if (a0_2.size:Int) > 80 then (impl_LineOk.j0 k true a0_0 a0_1 a0_2) else ((impl_areArgs.f k a0_2).bind fun t183 => (if t183 = true then (if a0_1.toList = ([]:List UInt8) then (impl_LineOk.j0 k (a0_2.toList != ([]:List UInt8)) a0_0 a0_1 a0_2) else (impl_LineOk.j0 k false a0_0 a0_1 a0_2)) else (impl_LineOk.j0 k true a0_0 a0_1 a0_2)))) else (impl_LineOk.j0 k true a0_0 a0_1 a0_2))) else ((impl_NameOk.f k a0_0).bind fun t184 => (if t184 = true then ((impl_isOp.f k a0_1 10).bind fun t185 => (if t185 = true then (if (a0_2.size:Int) > 80 then (impl_LineOk.j0 k true a0_0 a0_1 a0_2) else ((impl_areArgs.f k a0_2).bind fun t186 => (if t186 = true then (if a0_1.toList = ([]:List UInt8) then (impl_LineOk.j0 k (a0_2.toList != ([]:List UInt8)) a0_0 a0_1 a0_2) else (impl_LineOk.j0 k false a0_0 a0_1 a0_2)) else (impl_LineOk.j0 k true a0_0 a0_1 a0_2)))) else (impl_LineOk.j0 k true a0_0 a0_1 a0_2))) else (impl_LineOk.j0 k true a0_0 a0_1 a0_2)))
theorem impl_LineOk.calls (k:Nat) (a0_0:ByteArray) (a0_1:ByteArray) (a0_2:ByteArray) (r:Bool) (w:World) (h:impl_LineOk.f k a0_0 a0_1 a0_2 = some r) (hG:Go.Proofs.YtoiiaklmjpiejaaDoor.LibW.GL w:=by first | exact hG | exact hG.below q18_ | exact hG.drewN _) :
  Calls Tryd.prog 14 #[.agg #[.string a0_0,.string a0_1,.string a0_2]] w fun e w' => e = .returned (.bool r) ∧ Below w.heap.size w w':=by
 have hu29:=Tryd.underlying29
 have HB:=Aside0.mk (Below.refl w.heap.size w)
 have H:=h;unfold impl_LineOk.f at H
 clear h
 have HC2:=Aside0.mk H
 clear H
 go_enter Tryd.func14,Tryd.ntmps14
 go_upto_region 1 with (first | ((with_reducible refine gate_dst (N:=1) rfl ?_);(try (refine gate_guard (by rfl) ?_;dsimp only));refine box_event ?hg (N:=1) ?hd (cs:=#[.string a0_0,.string a0_1,.string a0_2]) (t:=29) ?hr ?_;(case hd => rfl);(case hg => rfl);(case hr => exact q130_);intro gb181 hg w3 hbox hb;have n0_:=Aside0.mk (below_step q83_ hb);have n1_:=Aside0.mk (hbox);have n2_:=Aside0.mk ((q64_:w.heap.size ≤ gb181));have n3_:=Aside0.mk ((q64_:w.heap.size ≤ gb181));clear HB;have HB:=n0_;have BK181:=n1_;have GW181:=n2_;have GE181:=n3_;clear n0_ n1_ n2_ n3_;clear hb hbox hg))
 (try simp only [Act.put,List.setIfInBounds_toArray,List.set_cons_zero,List.set_cons_succ])
 go_cut [39] (fun v39 wc => ∃ (kq:Nat) (x39_1:Bool),v39 = .bool x39_1 ∧ Aside0 (impl_LineOk.j0 kq x39_1 a0_0 a0_1 a0_2 = some r) ∧ Aside0 (kq ≤ k) ∧ Aside0 (wc.heap[gb181]? = some (.cells #[.string a0_0,.string a0_1,.string a0_2] 29 (0,0))) ∧ Aside0 (Below w.heap.size w wc))
 case first =>
  have H:=HC2.out
  clear HC2
  by_cases c4:a0_0.toList = ([]:List UInt8)
  ·rw [if_pos c4] at H
   have c4b0:(a0_0.toList == ([]:List UInt8)) = true:=beq_iff_eq.mpr c4
   have c4b1:(a0_0.toList != ([]:List UInt8)) = false:=bne_eq_false_iff_eq.mpr c4
   have c4b9:a0_0.toList.isEmpty = true:=(isEmpty_beq _).trans c4b0
   clear c4
   (first | rw [c4b0] | (simp only [i64_w,i32_w];rw [c4b0]) | rw [c4b9] | skip)
   replace H:=Option.bind_eq_some_iff.mp H
   obtain ⟨t182,A50,H⟩:=H
   have A5:=Aside0.mk A50
   clear A50
   by_cases c6:t182 = true
   ·subst c6
    rewrite [if_pos rfl] at H
    by_cases c7:(a0_2.size:Int) > 80
    ·rw [if_pos c7] at H
     have c7b0:decide (80 < (a0_2.size:Int)) = true:=decide_eq_true c7
     have c7b1:decide (80 < a0_2.size) = true:=decide_eq_true (by omega)
     clear c7
     have H':=Aside0.mk H
     clear H
     have hcz8_0:w3.cell? ⟨gb181,0,none⟩ = some (.string a0_0):=bz_ BK181 0
     have hcz8_1:w3.cell? ⟨gb181,1,none⟩ = some (.string a0_1):=bz_ BK181 1
     have hcz8_2:w3.cell? ⟨gb181,2,none⟩ = some (.string a0_2):=bz_ BK181 2
     have hfz8_0:=blk_frozen BK181.out 0
     have hfz8_1:=blk_frozen BK181.out 1
     have hfz8_2:=blk_frozen BK181.out 2
     go_wp2_with (first | (go_at_call 39;(with_reducible refine (impl_isOp.calls k a0_1 10 true _ A5.out).mono ?_);rintro e w' ⟨rfl,⟨nd,rfl⟩⟩))
     go_meet
     case rel => exact ⟨_,(true),q101_,H',⟨q115_⟩,⟨q88_⟩,⟨q67_⟩⟩
    rw [if_neg c7] at H
    have c7b0:decide (80 < (a0_2.size:Int)) = false:=decide_eq_false c7
    have c7b1:decide (80 < a0_2.size) = false:=decide_eq_false (by omega)
    clear c7
    replace H:=Option.bind_eq_some_iff.mp H
    obtain ⟨t183,A90,H⟩:=H
    have A9:=Aside0.mk A90
    clear A90
    by_cases c10:t183 = true
    ·subst c10
     rewrite [if_pos rfl] at H
     by_cases c11:a0_1.toList = ([]:List UInt8)
     ·rw [if_pos c11] at H
      have c11b0:(a0_1.toList == ([]:List UInt8)) = true:=beq_iff_eq.mpr c11
      have c11b1:(a0_1.toList != ([]:List UInt8)) = false:=bne_eq_false_iff_eq.mpr c11
      have c11b9:a0_1.toList.isEmpty = true:=(isEmpty_beq _).trans c11b0
      clear c11
      have H':=Aside0.mk H
      clear H
      have hcz12_0:w3.cell? ⟨gb181,0,none⟩ = some (.string a0_0):=bz_ BK181 0
      have hcz12_1:w3.cell? ⟨gb181,1,none⟩ = some (.string a0_1):=bz_ BK181 1
      have hcz12_2:w3.cell? ⟨gb181,2,none⟩ = some (.string a0_2):=bz_ BK181 2
      have hfz12_0:=blk_frozen BK181.out 0
      have hfz12_1:=blk_frozen BK181.out 1
      have hfz12_2:=blk_frozen BK181.out 2
      go_wp2_with (first | (go_at_call 39;(with_reducible refine (impl_isOp.calls k a0_1 10 true _ A5.out).mono ?_);rintro e w' ⟨rfl,⟨nd,rfl⟩⟩) | (go_at_call 31;(with_reducible refine (impl_areArgs.calls k a0_2 true _ A9.out).mono ?_);rintro e w13 ⟨rfl,hb⟩;have n0_:=Aside0.mk (blk_below (g:=gb181) (o:=.cells #[.string a0_0,.string a0_1,.string a0_2] 29 (0,0)) q88_ hb);have n1_:=Aside0.mk (below_step q67_ hb);clear BK181;clear HB;have BK181:=n0_;have HB:=n1_;clear n0_ n1_;(try clear hb);have hcz14_0:w13.cell? ⟨gb181,0,none⟩ = some (.string a0_0):=(blk_cell BK181.out 0).trans rfl;have hcz14_1:w13.cell? ⟨gb181,1,none⟩ = some (.string a0_1):=(blk_cell BK181.out 1).trans rfl;have hcz14_2:w13.cell? ⟨gb181,2,none⟩ = some (.string a0_2):=(blk_cell BK181.out 2).trans rfl;have hfz14_0:=blk_frozen BK181.out 0;have hfz14_1:=blk_frozen BK181.out 1;have hfz14_2:=blk_frozen BK181.out 2))
      go_meet
      case rel => exact ⟨_,((a0_2.toList != ([]:List UInt8))),q101_,H',⟨q115_⟩,⟨q88_⟩,⟨q67_⟩⟩
     rw [if_neg c11] at H
     have c11b0:(a0_1.toList == ([]:List UInt8)) = false:=beq_eq_false_iff_ne.mpr c11
     have c11b1:(a0_1.toList != ([]:List UInt8)) = true:=bne_iff_ne.mpr c11
     have c11b9:a0_1.toList.isEmpty = false:=(isEmpty_beq _).trans c11b0
     have H':=Aside0.mk H
     clear H
     have hcz15_0:w3.cell? ⟨gb181,0,none⟩ = some (.string a0_0):=bz_ BK181 0
     have hcz15_1:w3.cell? ⟨gb181,1,none⟩ = some (.string a0_1):=bz_ BK181 1
     have hcz15_2:w3.cell? ⟨gb181,2,none⟩ = some (.string a0_2):=bz_ BK181 2
     have hfz15_0:=blk_frozen BK181.out 0
     have hfz15_1:=blk_frozen BK181.out 1
     have hfz15_2:=blk_frozen BK181.out 2
     go_wp2_with (first | (go_at_call 39;(with_reducible refine (impl_isOp.calls k a0_1 10 true _ A5.out).mono ?_);rintro e w' ⟨rfl,⟨nd,rfl⟩⟩) | (go_at_call 31;(with_reducible refine (impl_areArgs.calls k a0_2 true _ A9.out).mono ?_);rintro e w16 ⟨rfl,hb⟩;have n0_:=Aside0.mk (blk_below (g:=gb181) (o:=.cells #[.string a0_0,.string a0_1,.string a0_2] 29 (0,0)) q88_ hb);have n1_:=Aside0.mk (below_step q67_ hb);clear BK181;clear HB;have BK181:=n0_;have HB:=n1_;clear n0_ n1_;(try clear hb);have hcz17_0:w16.cell? ⟨gb181,0,none⟩ = some (.string a0_0):=(blk_cell BK181.out 0).trans rfl;have hcz17_1:w16.cell? ⟨gb181,1,none⟩ = some (.string a0_1):=(blk_cell BK181.out 1).trans rfl;have hcz17_2:w16.cell? ⟨gb181,2,none⟩ = some (.string a0_2):=(blk_cell BK181.out 2).trans rfl;have hfz17_0:=blk_frozen BK181.out 0;have hfz17_1:=blk_frozen BK181.out 1;have hfz17_2:=blk_frozen BK181.out 2))
     go_meet
     case rel => exact ⟨_,(false),q101_,H',⟨q115_⟩,⟨q88_⟩,⟨q67_⟩⟩
    replace c10:=Bool.eq_false_iff.mpr c10
    subst c10
    rewrite [if_neg (show ¬ (false = true) by decide)] at H
    have H':=Aside0.mk H
    clear H
    have hcz18_0:w3.cell? ⟨gb181,0,none⟩ = some (.string a0_0):=bz_ BK181 0
    have hcz18_1:w3.cell? ⟨gb181,1,none⟩ = some (.string a0_1):=bz_ BK181 1
    have hcz18_2:w3.cell? ⟨gb181,2,none⟩ = some (.string a0_2):=bz_ BK181 2
    have hfz18_0:=blk_frozen BK181.out 0
    have hfz18_1:=blk_frozen BK181.out 1
    have hfz18_2:=blk_frozen BK181.out 2
    go_wp2_with (first | (go_at_call 39;(with_reducible refine (impl_isOp.calls k a0_1 10 true _ A5.out).mono ?_);rintro e w' ⟨rfl,⟨nd,rfl⟩⟩) | (go_at_call 31;(with_reducible refine (impl_areArgs.calls k a0_2 false _ A9.out).mono ?_);rintro e w19 ⟨rfl,hb⟩;have n0_:=Aside0.mk (blk_below (g:=gb181) (o:=.cells #[.string a0_0,.string a0_1,.string a0_2] 29 (0,0)) q88_ hb);have n1_:=Aside0.mk (below_step q67_ hb);clear BK181;clear HB;have BK181:=n0_;have HB:=n1_;clear n0_ n1_;(try clear hb)))
    go_meet
    case rel => exact ⟨_,(true),q101_,H',⟨q115_⟩,⟨q88_⟩,⟨q67_⟩⟩
   replace c6:=Bool.eq_false_iff.mpr c6
   subst c6
   rewrite [if_neg (show ¬ (false = true) by decide)] at H
   have H':=Aside0.mk H
   clear H
   have hcz20_0:w3.cell? ⟨gb181,0,none⟩ = some (.string a0_0):=bz_ BK181 0
   have hcz20_1:w3.cell? ⟨gb181,1,none⟩ = some (.string a0_1):=bz_ BK181 1
   have hcz20_2:w3.cell? ⟨gb181,2,none⟩ = some (.string a0_2):=bz_ BK181 2
   have hfz20_0:=blk_frozen BK181.out 0
   have hfz20_1:=blk_frozen BK181.out 1
   have hfz20_2:=blk_frozen BK181.out 2
   go_wp2_with (first | (go_at_call 39;(with_reducible refine (impl_isOp.calls k a0_1 10 false _ A5.out).mono ?_);rintro e w' ⟨rfl,⟨nd,rfl⟩⟩))
   go_meet
   case rel => exact ⟨_,(true),q101_,H',⟨q115_⟩,⟨q88_⟩,⟨q67_⟩⟩
  rw [if_neg c4] at H
  have c4b0:(a0_0.toList == ([]:List UInt8)) = false:=beq_eq_false_iff_ne.mpr c4
  have c4b1:(a0_0.toList != ([]:List UInt8)) = true:=bne_iff_ne.mpr c4
  have c4b9:a0_0.toList.isEmpty = false:=(isEmpty_beq _).trans c4b0
  (first | rw [c4b0] | (simp only [i64_w,i32_w];rw [c4b0]) | rw [c4b9] | skip)
  replace H:=Option.bind_eq_some_iff.mp H
  obtain ⟨t184,A210,H⟩:=H
  have A21:=Aside0.mk A210
  clear A210
  by_cases c22:t184 = true
  ·subst c22
   rewrite [if_pos rfl] at H
   replace H:=Option.bind_eq_some_iff.mp H
   obtain ⟨t185,A230,H⟩:=H
   have A23:=Aside0.mk A230
   clear A230
   by_cases c24:t185 = true
   ·subst c24
    rewrite [if_pos rfl] at H
    by_cases c25:(a0_2.size:Int) > 80
    ·rw [if_pos c25] at H
     have c25b0:decide (80 < (a0_2.size:Int)) = true:=decide_eq_true c25
     have c25b1:decide (80 < a0_2.size) = true:=decide_eq_true (by omega)
     clear c25
     have H':=Aside0.mk H
     clear H
     have hcz26_0:w3.cell? ⟨gb181,0,none⟩ = some (.string a0_0):=bz_ BK181 0
     have hcz26_1:w3.cell? ⟨gb181,1,none⟩ = some (.string a0_1):=bz_ BK181 1
     have hcz26_2:w3.cell? ⟨gb181,2,none⟩ = some (.string a0_2):=bz_ BK181 2
     have hfz26_0:=blk_frozen BK181.out 0
     have hfz26_1:=blk_frozen BK181.out 1
     have hfz26_2:=blk_frozen BK181.out 2
     go_wp2_with (first | (go_at_call 38;(with_reducible refine (impl_NameOk.calls k a0_0 true _ A21.out).mono ?_);rintro e w' ⟨rfl,⟨nd,rfl⟩⟩) | (go_at_call 39;(with_reducible refine (impl_isOp.calls k a0_1 10 true _ A23.out).mono ?_);rintro e w' ⟨rfl,⟨nd,rfl⟩⟩))
     go_meet
     case rel => exact ⟨_,(true),q101_,H',⟨q115_⟩,⟨q88_⟩,⟨q67_⟩⟩
    rw [if_neg c25] at H
    have c25b0:decide (80 < (a0_2.size:Int)) = false:=decide_eq_false c25
    have c25b1:decide (80 < a0_2.size) = false:=decide_eq_false (by omega)
    clear c25
    replace H:=Option.bind_eq_some_iff.mp H
    obtain ⟨t186,A270,H⟩:=H
    have A27:=Aside0.mk A270
    clear A270
    by_cases c28:t186 = true
    ·subst c28
     rewrite [if_pos rfl] at H
     by_cases c29:a0_1.toList = ([]:List UInt8)
     ·rw [if_pos c29] at H
      have c29b0:(a0_1.toList == ([]:List UInt8)) = true:=beq_iff_eq.mpr c29
      have c29b1:(a0_1.toList != ([]:List UInt8)) = false:=bne_eq_false_iff_eq.mpr c29
      have c29b9:a0_1.toList.isEmpty = true:=(isEmpty_beq _).trans c29b0
      clear c29
      have H':=Aside0.mk H
      clear H
      have hcz30_0:w3.cell? ⟨gb181,0,none⟩ = some (.string a0_0):=bz_ BK181 0
      have hcz30_1:w3.cell? ⟨gb181,1,none⟩ = some (.string a0_1):=bz_ BK181 1
      have hcz30_2:w3.cell? ⟨gb181,2,none⟩ = some (.string a0_2):=bz_ BK181 2
      have hfz30_0:=blk_frozen BK181.out 0
      have hfz30_1:=blk_frozen BK181.out 1
      have hfz30_2:=blk_frozen BK181.out 2
      go_wp2_with (first | (go_at_call 38;(with_reducible refine (impl_NameOk.calls k a0_0 true _ A21.out).mono ?_);rintro e w' ⟨rfl,⟨nd,rfl⟩⟩) | (go_at_call 39;(with_reducible refine (impl_isOp.calls k a0_1 10 true _ A23.out).mono ?_);rintro e w' ⟨rfl,⟨nd,rfl⟩⟩) | (go_at_call 31;(with_reducible refine (impl_areArgs.calls k a0_2 true _ A27.out).mono ?_);rintro e w31 ⟨rfl,hb⟩;have n0_:=Aside0.mk (blk_below (g:=gb181) (o:=.cells #[.string a0_0,.string a0_1,.string a0_2] 29 (0,0)) q88_ hb);have n1_:=Aside0.mk (below_step q67_ hb);clear BK181;clear HB;have BK181:=n0_;have HB:=n1_;clear n0_ n1_;(try clear hb);have hcz32_0:w31.cell? ⟨gb181,0,none⟩ = some (.string a0_0):=(blk_cell BK181.out 0).trans rfl;have hcz32_1:w31.cell? ⟨gb181,1,none⟩ = some (.string a0_1):=(blk_cell BK181.out 1).trans rfl;have hcz32_2:w31.cell? ⟨gb181,2,none⟩ = some (.string a0_2):=(blk_cell BK181.out 2).trans rfl;have hfz32_0:=blk_frozen BK181.out 0;have hfz32_1:=blk_frozen BK181.out 1;have hfz32_2:=blk_frozen BK181.out 2))
      go_meet
      case rel => exact ⟨_,((a0_2.toList != ([]:List UInt8))),q101_,H',⟨q115_⟩,⟨q88_⟩,⟨q67_⟩⟩
     rw [if_neg c29] at H
     have c29b0:(a0_1.toList == ([]:List UInt8)) = false:=beq_eq_false_iff_ne.mpr c29
     have c29b1:(a0_1.toList != ([]:List UInt8)) = true:=bne_iff_ne.mpr c29
     have c29b9:a0_1.toList.isEmpty = false:=(isEmpty_beq _).trans c29b0
     have H':=Aside0.mk H
     clear H
     have hcz33_0:w3.cell? ⟨gb181,0,none⟩ = some (.string a0_0):=bz_ BK181 0
     have hcz33_1:w3.cell? ⟨gb181,1,none⟩ = some (.string a0_1):=bz_ BK181 1
     have hcz33_2:w3.cell? ⟨gb181,2,none⟩ = some (.string a0_2):=bz_ BK181 2
     have hfz33_0:=blk_frozen BK181.out 0
     have hfz33_1:=blk_frozen BK181.out 1
     have hfz33_2:=blk_frozen BK181.out 2
     go_wp2_with (first | (go_at_call 38;(with_reducible refine (impl_NameOk.calls k a0_0 true _ A21.out).mono ?_);rintro e w' ⟨rfl,⟨nd,rfl⟩⟩) | (go_at_call 39;(with_reducible refine (impl_isOp.calls k a0_1 10 true _ A23.out).mono ?_);rintro e w' ⟨rfl,⟨nd,rfl⟩⟩) | (go_at_call 31;(with_reducible refine (impl_areArgs.calls k a0_2 true _ A27.out).mono ?_);rintro e w34 ⟨rfl,hb⟩;have n0_:=Aside0.mk (blk_below (g:=gb181) (o:=.cells #[.string a0_0,.string a0_1,.string a0_2] 29 (0,0)) q88_ hb);have n1_:=Aside0.mk (below_step q67_ hb);clear BK181;clear HB;have BK181:=n0_;have HB:=n1_;clear n0_ n1_;(try clear hb);have hcz35_0:w34.cell? ⟨gb181,0,none⟩ = some (.string a0_0):=(blk_cell BK181.out 0).trans rfl;have hcz35_1:w34.cell? ⟨gb181,1,none⟩ = some (.string a0_1):=(blk_cell BK181.out 1).trans rfl;have hcz35_2:w34.cell? ⟨gb181,2,none⟩ = some (.string a0_2):=(blk_cell BK181.out 2).trans rfl;have hfz35_0:=blk_frozen BK181.out 0;have hfz35_1:=blk_frozen BK181.out 1;have hfz35_2:=blk_frozen BK181.out 2))
     go_meet
     case rel => exact ⟨_,(false),q101_,H',⟨q115_⟩,⟨q88_⟩,⟨q67_⟩⟩
    replace c28:=Bool.eq_false_iff.mpr c28
    subst c28
    rewrite [if_neg (show ¬ (false = true) by decide)] at H
    have H':=Aside0.mk H
    clear H
    have hcz36_0:w3.cell? ⟨gb181,0,none⟩ = some (.string a0_0):=bz_ BK181 0
    have hcz36_1:w3.cell? ⟨gb181,1,none⟩ = some (.string a0_1):=bz_ BK181 1
    have hcz36_2:w3.cell? ⟨gb181,2,none⟩ = some (.string a0_2):=bz_ BK181 2
    have hfz36_0:=blk_frozen BK181.out 0
    have hfz36_1:=blk_frozen BK181.out 1
    have hfz36_2:=blk_frozen BK181.out 2
    go_wp2_with (first | (go_at_call 38;(with_reducible refine (impl_NameOk.calls k a0_0 true _ A21.out).mono ?_);rintro e w' ⟨rfl,⟨nd,rfl⟩⟩) | (go_at_call 39;(with_reducible refine (impl_isOp.calls k a0_1 10 true _ A23.out).mono ?_);rintro e w' ⟨rfl,⟨nd,rfl⟩⟩) | (go_at_call 31;(with_reducible refine (impl_areArgs.calls k a0_2 false _ A27.out).mono ?_);rintro e w37 ⟨rfl,hb⟩;have n0_:=Aside0.mk (blk_below (g:=gb181) (o:=.cells #[.string a0_0,.string a0_1,.string a0_2] 29 (0,0)) q88_ hb);have n1_:=Aside0.mk (below_step q67_ hb);clear BK181;clear HB;have BK181:=n0_;have HB:=n1_;clear n0_ n1_;(try clear hb)))
    go_meet
    case rel => exact ⟨_,(true),q101_,H',⟨q115_⟩,⟨q88_⟩,⟨q67_⟩⟩
   replace c24:=Bool.eq_false_iff.mpr c24
   subst c24
   rewrite [if_neg (show ¬ (false = true) by decide)] at H
   have H':=Aside0.mk H
   clear H
   have hcz38_0:w3.cell? ⟨gb181,0,none⟩ = some (.string a0_0):=bz_ BK181 0
   have hcz38_1:w3.cell? ⟨gb181,1,none⟩ = some (.string a0_1):=bz_ BK181 1
   have hcz38_2:w3.cell? ⟨gb181,2,none⟩ = some (.string a0_2):=bz_ BK181 2
   have hfz38_0:=blk_frozen BK181.out 0
   have hfz38_1:=blk_frozen BK181.out 1
   have hfz38_2:=blk_frozen BK181.out 2
   go_wp2_with (first | (go_at_call 38;(with_reducible refine (impl_NameOk.calls k a0_0 true _ A21.out).mono ?_);rintro e w' ⟨rfl,⟨nd,rfl⟩⟩) | (go_at_call 39;(with_reducible refine (impl_isOp.calls k a0_1 10 false _ A23.out).mono ?_);rintro e w' ⟨rfl,⟨nd,rfl⟩⟩))
   go_meet
   case rel => exact ⟨_,(true),q101_,H',⟨q115_⟩,⟨q88_⟩,⟨q67_⟩⟩
  replace c22:=Bool.eq_false_iff.mpr c22
  subst c22
  rewrite [if_neg (show ¬ (false = true) by decide)] at H
  have H':=Aside0.mk H
  clear H
  have hcz39_0:w3.cell? ⟨gb181,0,none⟩ = some (.string a0_0):=bz_ BK181 0
  have hcz39_1:w3.cell? ⟨gb181,1,none⟩ = some (.string a0_1):=bz_ BK181 1
  have hcz39_2:w3.cell? ⟨gb181,2,none⟩ = some (.string a0_2):=bz_ BK181 2
  have hfz39_0:=blk_frozen BK181.out 0
  have hfz39_1:=blk_frozen BK181.out 1
  have hfz39_2:=blk_frozen BK181.out 2
  go_wp2_with (first | (go_at_call 38;(with_reducible refine (impl_NameOk.calls k a0_0 false _ A21.out).mono ?_);rintro e w' ⟨rfl,⟨nd,rfl⟩⟩))
  go_meet
  case rel => exact ⟨_,(true),q101_,H',⟨q115_⟩,⟨q88_⟩,⟨q67_⟩⟩
 clear HC2
 try clear c1
 try clear c2
 try clear p2
 try clear c4
 try clear c4b0
 try clear c4b1
 try clear c6
 try clear p6
 try clear c7
 try clear c7b0
 try clear c7b1
 try clear c10
 try clear c11
 try clear c11b0
 try clear c11b1
 try clear c14
 try clear c22
 try clear c24
 try clear c25
 try clear c25b0
 try clear c25b1
 try clear c28
 try clear c29
 try clear c29b0
 try clear c29b1
 try clear hcz12_0 hcz12_1 hcz12_2
 try clear hcz14_0 hcz14_1 hcz14_2
 try clear hcz15_0 hcz15_1 hcz15_2
 try clear hcz17_0 hcz17_1 hcz17_2
 try clear hcz18_0 hcz18_1 hcz18_2
 try clear hcz20_0 hcz20_1 hcz20_2
 try clear hcz26_0 hcz26_1 hcz26_2
 try clear hcz30_0 hcz30_1 hcz30_2
 try clear hcz32_0 hcz32_1 hcz32_2
 try clear hcz33_0 hcz33_1 hcz33_2
 try clear hcz35_0 hcz35_1 hcz35_2
 try clear hcz36_0 hcz36_1 hcz36_2
 try clear hcz38_0 hcz38_1 hcz38_2
 try clear hcz39_0 hcz39_1 hcz39_2
 try clear hcz8_0 hcz8_1 hcz8_2
 try clear hfz12_0 hfz12_1 hfz12_2
 try clear hfz14_0 hfz14_1 hfz14_2
 try clear hfz15_0 hfz15_1 hfz15_2
 try clear hfz17_0 hfz17_1 hfz17_2
 try clear hfz18_0 hfz18_1 hfz18_2
 try clear hfz20_0 hfz20_1 hfz20_2
 try clear hfz26_0 hfz26_1 hfz26_2
 try clear hfz30_0 hfz30_1 hfz30_2
 try clear hfz32_0 hfz32_1 hfz32_2
 try clear hfz33_0 hfz33_1 hfz33_2
 try clear hfz35_0 hfz35_1 hfz35_2
 try clear hfz36_0 hfz36_1 hfz36_2
 try clear hfz38_0 hfz38_1 hfz38_2
 try clear hfz39_0 hfz39_1 hfz39_2
 try clear hfz8_0 hfz8_1 hfz8_2
 obtain ⟨kq,x39_1,rfl,HA,HJ1,BK181,HB⟩:=hcut
 cases kq with
 | zero => exact absurd HA.out (by simp [impl_LineOk.j0])
 | succ kj1 =>
  have H:=HA.out
  clear HA
  simp only [impl_LineOk.j0] at H
  by_cases c40:x39_1 = true
  ·subst c40
   rewrite [if_pos rfl] at H
   obtain rfl:=Option.some.inj H
   go_wp2
   go_ret
   exact ⟨q84_,q67_⟩
  replace c40:=Bool.eq_false_iff.mpr c40
  subst c40
  rewrite [if_neg (show ¬ (false = true) by decide)] at H
  replace H:=Option.bind_eq_some_iff.mp H
  obtain ⟨t187,A410,H⟩:=H
  have A41:=Aside0.mk A410
  clear A410
  obtain rfl:=Option.some.inj H
  have hcz42_0:wc.cell? ⟨gb181,0,none⟩ = some (.string a0_0):=bz_ BK181 0
  have hcz42_1:wc.cell? ⟨gb181,1,none⟩ = some (.string a0_1):=bz_ BK181 1
  have hcz42_2:wc.cell? ⟨gb181,2,none⟩ = some (.string a0_2):=bz_ BK181 2
  have hfz42_0:=blk_frozen BK181.out 0
  have hfz42_1:=blk_frozen BK181.out 1
  have hfz42_2:=blk_frozen BK181.out 2
  go_wp2_with (first | ((with_reducible refine gate_callee (f:=36) rfl ?_);refine goesL_ (some 41) rfl rfl Tryd.func36 (by kernel_rfl) rfl #[.agg #[.string a0_0,.string a0_1,.string a0_2]] rfl q82_ ?_;(with_reducible refine (impl_lineText.calls kj1 a0_0 a0_1 a0_2 t187 _ A41.out).mono ?_);rintro e w43 ⟨rfl,hb⟩;refine ⟨_,rfl,?_⟩;have n0_:=Aside0.mk (blk_below (g:=gb181) (o:=.cells #[.string a0_0,.string a0_1,.string a0_2] 29 (0,0)) q88_ hb);have n1_:=Aside0.mk (below_step q67_ hb);clear BK181;clear HB;have BK181:=n0_;have HB:=n1_;clear n0_ n1_;(try clear hb)))
  go_ret
  exact ⟨q84_,q67_⟩
def impl_LineText.f (k:Nat) (a0_0:ByteArray) (a0_1:ByteArray) (a0_2:ByteArray):Option (ByteArray):=(impl_LineOk.f k a0_0 a0_1 a0_2).bind fun t189 => (if t189 = true then ((impl_lineText.f k a0_0 a0_1 a0_2).bind fun t190 => (some t190)) else (some (⟨#[]⟩:ByteArray)))
theorem impl_LineText.calls (k:Nat) (a0_0:ByteArray) (a0_1:ByteArray) (a0_2:ByteArray) (r:ByteArray) (w:World) (h:impl_LineText.f k a0_0 a0_1 a0_2 = some r) (hG:Go.Proofs.YtoiiaklmjpiejaaDoor.LibW.GL w:=by first | exact hG | exact hG.below q18_ | exact hG.drewN _) :
  Calls Tryd.prog 12 #[.agg #[.string a0_0,.string a0_1,.string a0_2]] w fun e w' => e = .returned (.string r) ∧ Below w.heap.size w w':=by
 have hu29:=Tryd.underlying29
 have HB:=Aside0.mk (Below.refl w.heap.size w)
 have H:=h;unfold impl_LineText.f at H
 clear h
 replace H:=Option.bind_eq_some_iff.mp H
 obtain ⟨t189,A20,H⟩:=H
 have A2:=Aside0.mk A20
 clear A20
 by_cases c3:t189 = true
 ·subst c3
  rewrite [if_pos rfl] at H
  replace H:=Option.bind_eq_some_iff.mp H
  obtain ⟨t190,A40,H⟩:=H
  have A4:=Aside0.mk A40
  clear A40
  obtain rfl:=Option.some.inj H
  go_enter Tryd.func12,Tryd.ntmps12
  go_wp2_with (first | ((with_reducible refine gate_dst (N:=1) rfl ?_);refine box_event ?hg (N:=1) ?hd (cs:=#[.string a0_0,.string a0_1,.string a0_2]) (t:=29) ?hr ?_;(case hd => rfl);(case hg => rfl);(case hr => exact q130_);intro gb188 hg w5 hbox hb;have n0_:=Aside0.mk (below_step q83_ hb);have n1_:=Aside0.mk (hbox);have n2_:=Aside0.mk ((q64_:w.heap.size ≤ gb188));have n3_:=Aside0.mk ((q64_:w.heap.size ≤ gb188));clear HB;have HB:=n0_;have BK188:=n1_;have GW188:=n2_;have GE188:=n3_;clear n0_ n1_ n2_ n3_;clear hb hbox hg;have hcz6_0:w5.cell? ⟨gb188,0,none⟩ = some (.string a0_0):=(blk_cell BK188.out 0).trans rfl;have hcz6_1:w5.cell? ⟨gb188,1,none⟩ = some (.string a0_1):=(blk_cell BK188.out 1).trans rfl;have hcz6_2:w5.cell? ⟨gb188,2,none⟩ = some (.string a0_2):=(blk_cell BK188.out 2).trans rfl;have hfz6_0:=blk_frozen BK188.out 0;have hfz6_1:=blk_frozen BK188.out 1;have hfz6_2:=blk_frozen BK188.out 2) | ((with_reducible refine gate_callee (f:=14) rfl ?_);refine goesL_ (some 4) rfl rfl Tryd.func14 (by kernel_rfl) rfl #[.agg #[.string a0_0,.string a0_1,.string a0_2]] rfl q82_ ?_;(with_reducible refine (impl_LineOk.calls k a0_0 a0_1 a0_2 true _ A2.out).mono ?_);rintro e w7 ⟨rfl,hb⟩;refine ⟨_,rfl,?_⟩;have n0_:=Aside0.mk (blk_below (g:=gb188) (o:=.cells #[.string a0_0,.string a0_1,.string a0_2] 29 (0,0)) q89_ hb);have n1_:=Aside0.mk (below_step q68_ hb);clear BK188;clear HB;have BK188:=n0_;have HB:=n1_;clear n0_ n1_;(try clear hb);have hcz8_0:w7.cell? ⟨gb188,0,none⟩ = some (.string a0_0):=(blk_cell BK188.out 0).trans rfl;have hcz8_1:w7.cell? ⟨gb188,1,none⟩ = some (.string a0_1):=(blk_cell BK188.out 1).trans rfl;have hcz8_2:w7.cell? ⟨gb188,2,none⟩ = some (.string a0_2):=(blk_cell BK188.out 2).trans rfl;have hfz8_0:=blk_frozen BK188.out 0;have hfz8_1:=blk_frozen BK188.out 1;have hfz8_2:=blk_frozen BK188.out 2) | ((with_reducible refine gate_callee (f:=36) rfl ?_);refine goesL_ (some 7) rfl rfl Tryd.func36 (by kernel_rfl) rfl #[.agg #[.string a0_0,.string a0_1,.string a0_2]] rfl q82_ ?_;(with_reducible refine (impl_lineText.calls k a0_0 a0_1 a0_2 t190 _ A4.out).mono ?_);rintro e w9 ⟨rfl,hb⟩;refine ⟨_,rfl,?_⟩;have n0_:=Aside0.mk (blk_below (g:=gb188) (o:=.cells #[.string a0_0,.string a0_1,.string a0_2] 29 (0,0)) q89_ hb);have n1_:=Aside0.mk (below_step q68_ hb);clear BK188;clear HB;have BK188:=n0_;have HB:=n1_;clear n0_ n1_;(try clear hb)))
  go_ret
  exact ⟨q84_,q68_⟩
 replace c3:=Bool.eq_false_iff.mpr c3
 subst c3
 rewrite [if_neg (show ¬ (false = true) by decide)] at H
 obtain rfl:=Option.some.inj H
 go_enter Tryd.func12,Tryd.ntmps12
 go_wp2_with (first | ((with_reducible refine gate_dst (N:=1) rfl ?_);refine box_event ?hg (N:=1) ?hd (cs:=#[.string a0_0,.string a0_1,.string a0_2]) (t:=29) ?hr ?_;(case hd => rfl);(case hg => rfl);(case hr => exact q130_);intro gb188 hg w10 hbox hb;have n0_:=Aside0.mk (below_step q83_ hb);have n1_:=Aside0.mk (hbox);have n2_:=Aside0.mk ((q64_:w.heap.size ≤ gb188));have n3_:=Aside0.mk ((q64_:w.heap.size ≤ gb188));clear HB;have HB:=n0_;have BK188:=n1_;have GW188:=n2_;have GE188:=n3_;clear n0_ n1_ n2_ n3_;clear hb hbox hg;have hcz11_0:w10.cell? ⟨gb188,0,none⟩ = some (.string a0_0):=(blk_cell BK188.out 0).trans rfl;have hcz11_1:w10.cell? ⟨gb188,1,none⟩ = some (.string a0_1):=(blk_cell BK188.out 1).trans rfl;have hcz11_2:w10.cell? ⟨gb188,2,none⟩ = some (.string a0_2):=(blk_cell BK188.out 2).trans rfl;have hfz11_0:=blk_frozen BK188.out 0;have hfz11_1:=blk_frozen BK188.out 1;have hfz11_2:=blk_frozen BK188.out 2) | ((with_reducible refine gate_callee (f:=14) rfl ?_);refine goesL_ (some 4) rfl rfl Tryd.func14 (by kernel_rfl) rfl #[.agg #[.string a0_0,.string a0_1,.string a0_2]] rfl q82_ ?_;(with_reducible refine (impl_LineOk.calls k a0_0 a0_1 a0_2 false _ A2.out).mono ?_);rintro e w12 ⟨rfl,hb⟩;refine ⟨_,rfl,?_⟩;have n0_:=Aside0.mk (blk_below (g:=gb188) (o:=.cells #[.string a0_0,.string a0_1,.string a0_2] 29 (0,0)) q89_ hb);have n1_:=Aside0.mk (below_step q68_ hb);clear BK188;clear HB;have BK188:=n0_;have HB:=n1_;clear n0_ n1_;(try clear hb)))
 go_ret
 exact ⟨q84_,q68_⟩
mutual
def spec_l7Plain.l0:Nat → ByteArray → Int → Option (Bool)
 | 0,_,_ => none
 | k + 1,x0,x3 => if x3 < (x0.size:Int) then (if 0 ≤ x3 then (if (bt x0 x3) < 32 then (spec_l7Plain.j1 k x0 x3 true) else (if (bt x0 x3) > 126 then (spec_l7Plain.j1 k x0 x3 true) else (spec_l7Plain.j1 k x0 x3 ((bt x0 x3) == 59)))) else (none)) else (if x0.toList = ([]:List UInt8) then (some true) else (if 0 < (x0.size:Int) then (if (bt x0 0) = 32 then (some false) else (if 0 ≤ (wrap64 ((x0.size:Int) - 1)) then (if (wrap64 ((x0.size:Int) - 1)) < (x0.size:Int) then (some ((bt x0 (wrap64 ((x0.size:Int) - 1))) != 32)) else (none)) else (none))) else (none)))
def spec_l7Plain.j1:Nat → ByteArray → Int → Bool → Option (Bool)
 | 0,_,_,_ => none
 | k + 1,x0,x3,x25 => if x25 = true then (some false) else (spec_l7Plain.l0 k x0 (wrap64 (x3 + 1)))
end
def spec_l7Plain.f (k:Nat) (a0:ByteArray):Option (Bool):=spec_l7Plain.l0 k a0 0
theorem spec_l7Plain.calls (k:Nat) (a0:ByteArray) (r:Bool) (w:World) (h:spec_l7Plain.f k a0 = some r) :
  Calls Tryd.prog 56 #[.string a0] w fun e w' => e = .returned (.bool r) ∧ Drawn0 w w':=by
 have H:(spec_l7Plain.l0 k a0 0) = some r:=h
 clear h
 have H':=Aside0.mk H
 clear H
 go_enter Tryd.func56,Tryd.ntmps56
 go_wp2
 go_loopg [3] k (fun kq v3 w' => ∃ (x3_1:Int),v3 = .int .i64 x3_1 ∧ Aside0 (spec_l7Plain.l0 kq a0 x3_1 = some r) ∧ Aside0 (kq ≤ k) ∧ Drawn0 w w')
 case atStart => exact ⟨(0),q101_,H',⟨Nat.le_refl _⟩,q108_⟩
 clear H'
 obtain ⟨x3_1,rfl,HA,HK1,⟨m1,rfl⟩⟩:=hrel
 cases gk with
 | zero => exact absurd HA.out (by simp [spec_l7Plain.l0])
 | succ k1 =>
  have H:=HA.out
  clear HA
  simp only [spec_l7Plain.l0] at H
  by_cases c2:x3_1 < (a0.size:Int)
  ·rw [if_pos c2] at H
   have c2b0:=decide_eq_true c2
   clear c2
   have HC3:=Aside0.mk H
   clear H
   go_upto_region 4 with (fail)
   go_cut [25] (fun v25 wc => ∃ (kq:Nat) (x25_2:Bool),v25 = .bool x25_2 ∧ Aside0 (spec_l7Plain.j1 kq a0 x3_1 x25_2 = some r) ∧ Aside0 (kq ≤ k1) ∧ Drawn0 w wc)
   case first =>
    have H:=HC3.out
    clear HC3
    by_cases c4:0 ≤ x3_1
    rotate_left
    ·rw [if_neg c4] at H
     exact absurd H (by simp)
    rw [if_pos c4] at H
    have c4b0:=decide_eq_true c4
    clear c4
    (first | rw [c4b0] | (simp only [i64_w,i32_w];rw [c4b0]) | rw [c4b9] | skip)
    by_cases c6:(bt a0 x3_1) < 32
    ·rw [if_pos c6] at H
     have c6b0:=decide_eq_true c6
     clear c6
     have H':=Aside0.mk H
     clear H
     have p5:0 ≤ (x3_1:Int):=of_decide_eq_true q113_
     have q5:x3_1 < (a0.size:Int):=of_decide_eq_true q113_
     have hx5:=bt_at a0 x3_1
     replace p5:=eq_true p5
     replace q5:=eq_true q5
     go_wp2
     go_meet
     case rel => exact ⟨_,(true),q101_,H',⟨q110_⟩,q108_⟩
    rw [if_neg c6] at H
    have c6b0:=decide_eq_false c6
    clear c6
    by_cases c8:(bt a0 x3_1) > 126
    ·rw [if_pos c8] at H
     have c8b0:decide (126 < (bt a0 x3_1)) = true:=decide_eq_true c8
     clear c8
     have H':=Aside0.mk H
     clear H
     have p5:0 ≤ (x3_1:Int):=of_decide_eq_true q113_
     have q5:x3_1 < (a0.size:Int):=of_decide_eq_true q113_
     have hx5:=bt_at a0 x3_1
     replace p5:=eq_true p5
     replace q5:=eq_true q5
     have p7:0 ≤ (x3_1:Int):=of_decide_eq_true q113_
     have q7:x3_1 < (a0.size:Int):=of_decide_eq_true q113_
     have hx7:=bt_at a0 x3_1
     replace p7:=eq_true p7
     replace q7:=eq_true q7
     go_wp2
     go_meet
     case rel => exact ⟨_,(true),q101_,H',⟨q110_⟩,q108_⟩
    rw [if_neg c8] at H
    have c8b0:decide (126 < (bt a0 x3_1)) = false:=decide_eq_false c8
    clear c8
    have H':=Aside0.mk H
    clear H
    have p5:0 ≤ (x3_1:Int):=of_decide_eq_true q113_
    have q5:x3_1 < (a0.size:Int):=of_decide_eq_true q113_
    have hx5:=bt_at a0 x3_1
    replace p5:=eq_true p5
    replace q5:=eq_true q5
    have p7:0 ≤ (x3_1:Int):=of_decide_eq_true q113_
    have q7:x3_1 < (a0.size:Int):=of_decide_eq_true q113_
    have hx7:=bt_at a0 x3_1
    replace p7:=eq_true p7
    replace q7:=eq_true q7
    have p9:0 ≤ (x3_1:Int):=of_decide_eq_true q113_
    have q9:x3_1 < (a0.size:Int):=of_decide_eq_true q113_
    have hx9:=bt_at a0 x3_1
    replace p9:=eq_true p9
    replace q9:=eq_true q9
    go_wp2
    go_meet
    case rel => exact ⟨_,(((bt a0 x3_1) == 59)),q101_,H',⟨q110_⟩,q108_⟩
   clear HC3
   try clear c2
   try clear c2b0
   try clear p2
   try clear c4
   try clear c4b0
   try clear c5
   try clear p5 p5
   try clear q5 q5
   try clear hx5
   try clear c6
   try clear c6b0
   try clear p6
   try clear p7 p7
   try clear q7 q7
   try clear hx7
   try clear c8
   try clear c8b0
   try clear p9 p9
   try clear q9 q9
   try clear hx9
   obtain ⟨kq,x25_2,rfl,HA,HJ2,⟨mc2,rfl⟩⟩:=hcut
   cases kq with
   | zero => exact absurd HA.out (by simp [spec_l7Plain.j1])
   | succ kj2 =>
    have H:=HA.out
    clear HA
    simp only [spec_l7Plain.j1] at H
    by_cases c10:x25_2 = true
    ·subst c10
     rewrite [if_pos rfl] at H
     obtain rfl:=Option.some.inj H
     go_wp2
     go_ret
     exact ⟨q101_,q108_⟩
    replace c10:=Bool.eq_false_iff.mpr c10
    subst c10
    rewrite [if_neg (show ¬ (false = true) by decide)] at H
    have H':=Aside0.mk H
    clear H
    go_wp2
    go_roundg kj2
    case measure => have:=HK1.out;have:=HJ2.out;omega
    case rel => exact ⟨(wrap64 (x3_1 + 1)),q101_,H',⟨q114_⟩,q108_⟩
  rw [if_neg c2] at H
  have c2b0:=decide_eq_false c2
  clear c2
  by_cases c11:a0.toList = ([]:List UInt8)
  ·rw [if_pos c11] at H
   have c11b0:(a0.toList == ([]:List UInt8)) = true:=beq_iff_eq.mpr c11
   have c11b1:(a0.toList != ([]:List UInt8)) = false:=bne_eq_false_iff_eq.mpr c11
   have c11b9:a0.toList.isEmpty = true:=(isEmpty_beq _).trans c11b0
   clear c11
   obtain rfl:=Option.some.inj H
   go_wp2
   go_ret
   exact ⟨q101_,q108_⟩
  rw [if_neg c11] at H
  have c11b0:(a0.toList == ([]:List UInt8)) = false:=beq_eq_false_iff_ne.mpr c11
  have c11b1:(a0.toList != ([]:List UInt8)) = true:=bne_iff_ne.mpr c11
  have c11b9:a0.toList.isEmpty = false:=(isEmpty_beq _).trans c11b0
  by_cases c12:0 < (a0.size:Int)
  rotate_left
  ·rw [if_neg c12] at H
   exact absurd H (by simp)
  rw [if_pos c12] at H
  have c12b0:=decide_eq_true c12
  have c12b1:decide (0 < a0.size) = true:=decide_eq_true (by omega)
  clear c12
  by_cases c14:(bt a0 0) = 32
  ·rw [if_pos c14] at H
   have c14b0:((bt a0 0) == 32) = true:=beq_iff_eq.mpr c14
   have c14b1:((bt a0 0) != 32) = false:=bne_eq_false_iff_eq.mpr c14
   clear c14
   obtain rfl:=Option.some.inj H
   have p13:0 ≤ (0:Int):=(by omega)
   have q13:0 < a0.size:=(by have:(0:Int) < (a0.size:Int):=of_decide_eq_true q113_;omega)
   have hx13:∀ h:0 < a0.size,((a0[0]'h).toNat:Int) = bt a0 0:=bt_at a0 0
   clear p13
   have qi13:(0 < (a0.size:Int)) = True:=eq_true (of_decide_eq_true q113_)
   replace q13:=eq_true q13
   go_wp2
   go_ret
   exact ⟨q101_,q108_⟩
  rw [if_neg c14] at H
  have c14b0:((bt a0 0) == 32) = false:=beq_eq_false_iff_ne.mpr c14
  have c14b1:((bt a0 0) != 32) = true:=bne_iff_ne.mpr c14
  obtain ⟨ji15,hji15⟩:∃ j_:Int,(wrap64 ((a0.size:Int) - 1)) = j_:=⟨_,rfl⟩
  (first | rewrite [hji15] at H | simp only [hji15] at H)
  have hji15w:(IntKind.i64.wrap ((a0.size:Int) - 1)) = ji15:=(i64_w _).trans hji15
  by_cases c16:0 ≤ (ji15)
  rotate_left
  ·rw [if_neg c16] at H
   exact absurd H (by simp)
  rw [if_pos c16] at H
  have c16b0:=decide_eq_true c16
  clear c16
  by_cases c17:(ji15) < (a0.size:Int)
  rotate_left
  ·rw [if_neg c17] at H
   exact absurd H (by simp)
  rw [if_pos c17] at H
  have c17b0:=decide_eq_true c17
  clear c17
  obtain rfl:=Option.some.inj H
  have p13:0 ≤ (0:Int):=(by omega)
  have q13:0 < a0.size:=(by have:(0:Int) < (a0.size:Int):=of_decide_eq_true q113_;omega)
  have hx13:∀ h:0 < a0.size,((a0[0]'h).toNat:Int) = bt a0 0:=bt_at a0 0
  clear p13
  have qi13:(0 < (a0.size:Int)) = True:=eq_true (of_decide_eq_true q113_)
  replace q13:=eq_true q13
  have p18:0 ≤ ((ji15):Int):=of_decide_eq_true q113_
  have q18:(ji15) < (a0.size:Int):=of_decide_eq_true q113_
  have hx18:=bt_at a0 (ji15)
  replace p18:=eq_true p18
  replace q18:=eq_true q18
  go_wp2
  go_ret
  exact ⟨by first | rfl | (simp;done) | (simp only [← hji15] <;> (first | rfl | (simp;done))) | (simp [*];done) | (simp;decide +kernel) | (simp [wrap64];done) | (simp [bne];done),q108_⟩
end Go.Proofs.YtoiiaklmjpiejaaDoor.QFnLines
