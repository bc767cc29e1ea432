/- The machine's side of a law,written by a program of this session for this claim. -/
import Derived.Test.YtoiiaklmjpiejaaDoorBQq
import Derived.Test.YtoiiaklmjpiejaaDoorBQFnLinesx0
import Derived.Test.YtoiiaklmjpiejaaDoorBQFnLinesx5
import Derived.Test.YtoiiaklmjpiejaaDoorBQFnLinesx6
import Derived.Test.YtoiiaklmjpiejaaDoorBQFnLinesx7
import Derived.Test.YtoiiaklmjpiejaaDoorBQFnLinesx8
namespace Go.Proofs.YtoiiaklmjpiejaaDoor.QFnLines
open Go.Proofs.YtoiiaklmjpiejaaDoor.Qq
open Go.RowKit Go.Proofs.YtoiiaklmjpiejaaDoor.LibX Go.Proofs.YtoiiaklmjpiejaaDoor.LibE Go.Proofs.YtoiiaklmjpiejaaDoor.LibCB Go.Proofs.YtoiiaklmjpiejaaDoor.LibT Go.Proofs.YtoiiaklmjpiejaaDoorW.PrintWords Go.Proofs.YtoiiaklmjpiejaaDoorW.PrintLast Go.Proofs.YtoiiaklmjpiejaaDoorW.PrintMore
attribute [local go_sem] max2_int min2_int max_two min_two max_three min_three max_four min_four   -- for this text's walks alone
set_option maxHeartbeats 8000000
set_option maxRecDepth 100000
set_option linter.unusedVariables false
set_option linter.unusedSimpArgs false
def spec_LineOk.j0:Nat → Bool → ByteArray → ByteArray → ByteArray → Option (Bool)
 | 0,_,_,_,_ => none
 | k + 1,x33,x196000,x196001,x196002 => if x33 = true then (some false) else ((spec_l7Text.f k x196000 x196001 x196002).bind fun t201 => (some (decide ((t201.size:Int) ≤ 80))))
def spec_LineOk.f (k:Nat) (a0_0:ByteArray) (a0_1:ByteArray) (a0_2:ByteArray):Option (Bool):=if a0_0.toList = ([]:List UInt8) then ((spec_l7Op.f k a0_1).bind fun t196 => (if t196 = true then ((spec_l7Args.f k a0_2).bind fun t197 => (if t197 = true then (if a0_1.toList = ([]:List UInt8) then (spec_LineOk.j0 k (a0_2.toList != ([]:List UInt8)) a0_0 a0_1 a0_2) else (spec_LineOk.j0 k false a0_0 a0_1 a0_2)) else (spec_LineOk.j0 k true a0_0 a0_1 a0_2))) else (spec_LineOk.j0 k true a0_0 a0_1 a0_2))) else ((spec_NameOk.f k a0_0).bind fun t198 => (if t198 = true then ((spec_l7Op.f k a0_1).bind fun t199 => (if t199 = true then ((spec_l7Args.f k a0_2).bind fun t200 => (if t200 = true then (if a0_1.toList = ([]:List UInt8) then (spec_LineOk.j0 k (a0_2.toList != ([]:List UInt8)) a0_0 a0_1 a0_2) else (spec_LineOk.j0 k false a0_0 a0_1 a0_2)) else (spec_LineOk.j0 k true a0_0 a0_1 a0_2))) else (spec_LineOk.j0 k true a0_0 a0_1 a0_2))) else (spec_LineOk.j0 k true a0_0 a0_1 a0_2)))
theorem spec_LineOk.calls (k:Nat) (a0_0:ByteArray) (a0_1:ByteArray) (a0_2:ByteArray) (r:Bool) (w:World) (h:spec_LineOk.f k a0_0 a0_1 a0_2 = some r) :
  Calls Tryd.prog 15 #[.agg #[.string a0_0,.string a0_1,.string a0_2]] w fun e w' => e = .returned (.bool r) ∧ Below w.heap.size w w':=by
 have hu29:=Tryd.underlying29
 have HB:=Aside0.mk (Below.refl w.heap.size w)
 have H:=h;unfold spec_LineOk.f at H
 clear h
 have HC2:=Aside0.mk H
 clear H
 go_enter Tryd.func15,Tryd.ntmps15
 go_upto_region 1 with (first | ((with_reducible refine gate_dst (N:=1) rfl ?_);refine box_event ?hg (N:=1) ?hd (cs:=#[.string a0_0,.string a0_1,.string a0_2]) (t:=29) ?hr ?_;(case hd => rfl);(case hg => rfl);(case hr => exact q130_);intro gb195 hg w3 hbox hb;have n0_:=Aside0.mk (below_step q83_ hb);have n1_:=Aside0.mk (hbox);have n2_:=Aside0.mk ((q64_:w.heap.size ≤ gb195));have n3_:=Aside0.mk ((q64_:w.heap.size ≤ gb195));clear HB;have HB:=n0_;have BK195:=n1_;have GW195:=n2_;have GE195:=n3_;clear n0_ n1_ n2_ n3_;clear hb hbox hg))
 (try simp only [Act.put,List.setIfInBounds_toArray,List.set_cons_zero,List.set_cons_succ])
 go_cut [33] (fun v33 wc => ∃ (kq:Nat) (x33_1:Bool),v33 = .bool x33_1 ∧ Aside0 (spec_LineOk.j0 kq x33_1 a0_0 a0_1 a0_2 = some r) ∧ Aside0 (kq ≤ k) ∧ Aside0 (wc.heap[gb195]? = some (.cells #[.string a0_0,.string a0_1,.string a0_2] 29 (0,0))) ∧ Aside0 (Below w.heap.size w wc))
 case first =>
  have H:=HC2.out
  clear HC2
  by_cases c4:a0_0.toList = ([]:List UInt8)
  ·rw [if_pos c4] at H
   have c4b0:(a0_0.toList == ([]:List UInt8)) = true:=beq_iff_eq.mpr c4
   have c4b1:(a0_0.toList != ([]:List UInt8)) = false:=bne_eq_false_iff_eq.mpr c4
   have c4b9:a0_0.toList.isEmpty = true:=(isEmpty_beq _).trans c4b0
   clear c4
   (first | rw [c4b0] | (simp only [i64_w,i32_w];rw [c4b0]) | rw [c4b9] | skip)
   replace H:=Option.bind_eq_some_iff.mp H
   obtain ⟨t196,A50,H⟩:=H
   have A5:=Aside0.mk A50
   clear A50
   by_cases c6:t196 = true
   ·subst c6
    rewrite [if_pos rfl] at H
    replace H:=Option.bind_eq_some_iff.mp H
    obtain ⟨t197,A70,H⟩:=H
    have A7:=Aside0.mk A70
    clear A70
    by_cases c8:t197 = true
    ·subst c8
     rewrite [if_pos rfl] at H
     by_cases c9:a0_1.toList = ([]:List UInt8)
     ·rw [if_pos c9] at H
      have c9b0:(a0_1.toList == ([]:List UInt8)) = true:=beq_iff_eq.mpr c9
      have c9b1:(a0_1.toList != ([]:List UInt8)) = false:=bne_eq_false_iff_eq.mpr c9
      have c9b9:a0_1.toList.isEmpty = true:=(isEmpty_beq _).trans c9b0
      clear c9
      have H':=Aside0.mk H
      clear H
      have hcz10_0:w3.cell? ⟨gb195,0,none⟩ = some (.string a0_0):=bz_ BK195 0
      have hcz10_1:w3.cell? ⟨gb195,1,none⟩ = some (.string a0_1):=bz_ BK195 1
      have hcz10_2:w3.cell? ⟨gb195,2,none⟩ = some (.string a0_2):=bz_ BK195 2
      have hfz10_0:=blk_frozen BK195.out 0
      have hfz10_1:=blk_frozen BK195.out 1
      have hfz10_2:=blk_frozen BK195.out 2
      go_wp2_with (first | (go_at_call 41;(with_reducible refine (spec_l7Op.calls k a0_1 true _ A5.out).mono ?_);rintro e w' ⟨rfl,⟨nd,rfl⟩⟩) | (go_at_call 33;(with_reducible refine (spec_l7Args.calls k a0_2 true _ A7.out).mono ?_);rintro e w' ⟨rfl,⟨nd,rfl⟩⟩))
      go_meet
      case rel => exact ⟨_,((a0_2.toList != ([]:List UInt8))),q101_,H',⟨q115_⟩,⟨q91_⟩,⟨q70_⟩⟩
     rw [if_neg c9] at H
     have c9b0:(a0_1.toList == ([]:List UInt8)) = false:=beq_eq_false_iff_ne.mpr c9
     have c9b1:(a0_1.toList != ([]:List UInt8)) = true:=bne_iff_ne.mpr c9
     have c9b9:a0_1.toList.isEmpty = false:=(isEmpty_beq _).trans c9b0
     have H':=Aside0.mk H
     clear H
     have hcz11_0:w3.cell? ⟨gb195,0,none⟩ = some (.string a0_0):=bz_ BK195 0
     have hcz11_1:w3.cell? ⟨gb195,1,none⟩ = some (.string a0_1):=bz_ BK195 1
     have hcz11_2:w3.cell? ⟨gb195,2,none⟩ = some (.string a0_2):=bz_ BK195 2
     have hfz11_0:=blk_frozen BK195.out 0
     have hfz11_1:=blk_frozen BK195.out 1
     have hfz11_2:=blk_frozen BK195.out 2
     go_wp2_with (first | (go_at_call 41;(with_reducible refine (spec_l7Op.calls k a0_1 true _ A5.out).mono ?_);rintro e w' ⟨rfl,⟨nd,rfl⟩⟩) | (go_at_call 33;(with_reducible refine (spec_l7Args.calls k a0_2 true _ A7.out).mono ?_);rintro e w' ⟨rfl,⟨nd,rfl⟩⟩))
     go_meet
     case rel => exact ⟨_,(false),q101_,H',⟨q115_⟩,⟨q91_⟩,⟨q70_⟩⟩
    replace c8:=Bool.eq_false_iff.mpr c8
    subst c8
    rewrite [if_neg (show ¬ (false = true) by decide)] at H
    have H':=Aside0.mk H
    clear H
    have hcz12_0:w3.cell? ⟨gb195,0,none⟩ = some (.string a0_0):=bz_ BK195 0
    have hcz12_1:w3.cell? ⟨gb195,1,none⟩ = some (.string a0_1):=bz_ BK195 1
    have hcz12_2:w3.cell? ⟨gb195,2,none⟩ = some (.string a0_2):=bz_ BK195 2
    have hfz12_0:=blk_frozen BK195.out 0
    have hfz12_1:=blk_frozen BK195.out 1
    have hfz12_2:=blk_frozen BK195.out 2
    go_wp2_with (first | (go_at_call 41;(with_reducible refine (spec_l7Op.calls k a0_1 true _ A5.out).mono ?_);rintro e w' ⟨rfl,⟨nd,rfl⟩⟩) | (go_at_call 33;(with_reducible refine (spec_l7Args.calls k a0_2 false _ A7.out).mono ?_);rintro e w' ⟨rfl,⟨nd,rfl⟩⟩))
    go_meet
    case rel => exact ⟨_,(true),q101_,H',⟨q115_⟩,⟨q91_⟩,⟨q70_⟩⟩
   replace c6:=Bool.eq_false_iff.mpr c6
   subst c6
   rewrite [if_neg (show ¬ (false = true) by decide)] at H
   have H':=Aside0.mk H
   clear H
   have hcz13_0:w3.cell? ⟨gb195,0,none⟩ = some (.string a0_0):=bz_ BK195 0
   have hcz13_1:w3.cell? ⟨gb195,1,none⟩ = some (.string a0_1):=bz_ BK195 1
   have hcz13_2:w3.cell? ⟨gb195,2,none⟩ = some (.string a0_2):=bz_ BK195 2
   have hfz13_0:=blk_frozen BK195.out 0
   have hfz13_1:=blk_frozen BK195.out 1
   have hfz13_2:=blk_frozen BK195.out 2
   go_wp2_with (first | (go_at_call 41;(with_reducible refine (spec_l7Op.calls k a0_1 false _ A5.out).mono ?_);rintro e w' ⟨rfl,⟨nd,rfl⟩⟩))
   go_meet
   case rel => exact ⟨_,(true),q101_,H',⟨q115_⟩,⟨q91_⟩,⟨q70_⟩⟩
  rw [if_neg c4] at H
  have c4b0:(a0_0.toList == ([]:List UInt8)) = false:=beq_eq_false_iff_ne.mpr c4
  have c4b1:(a0_0.toList != ([]:List UInt8)) = true:=bne_iff_ne.mpr c4
  have c4b9:a0_0.toList.isEmpty = false:=(isEmpty_beq _).trans c4b0
  (first | rw [c4b0] | (simp only [i64_w,i32_w];rw [c4b0]) | rw [c4b9] | skip)
  replace H:=Option.bind_eq_some_iff.mp H
  obtain ⟨t198,A140,H⟩:=H
  have A14:=Aside0.mk A140
  clear A140
  by_cases c15:t198 = true
  ·subst c15
   rewrite [if_pos rfl] at H
   replace H:=Option.bind_eq_some_iff.mp H
   obtain ⟨t199,A160,H⟩:=H
   have A16:=Aside0.mk A160
   clear A160
   by_cases c17:t199 = true
   ·subst c17
    rewrite [if_pos rfl] at H
    replace H:=Option.bind_eq_some_iff.mp H
    obtain ⟨t200,A180,H⟩:=H
    have A18:=Aside0.mk A180
    clear A180
    by_cases c19:t200 = true
    ·subst c19
     rewrite [if_pos rfl] at H
     by_cases c20:a0_1.toList = ([]:List UInt8)
     ·rw [if_pos c20] at H
      have c20b0:(a0_1.toList == ([]:List UInt8)) = true:=beq_iff_eq.mpr c20
      have c20b1:(a0_1.toList != ([]:List UInt8)) = false:=bne_eq_false_iff_eq.mpr c20
      have c20b9:a0_1.toList.isEmpty = true:=(isEmpty_beq _).trans c20b0
      clear c20
      have H':=Aside0.mk H
      clear H
      have hcz21_0:w3.cell? ⟨gb195,0,none⟩ = some (.string a0_0):=bz_ BK195 0
      have hcz21_1:w3.cell? ⟨gb195,1,none⟩ = some (.string a0_1):=bz_ BK195 1
      have hcz21_2:w3.cell? ⟨gb195,2,none⟩ = some (.string a0_2):=bz_ BK195 2
      have hfz21_0:=blk_frozen BK195.out 0
      have hfz21_1:=blk_frozen BK195.out 1
      have hfz21_2:=blk_frozen BK195.out 2
      go_wp2_with (first | (go_at_call 40;(with_reducible refine (spec_NameOk.calls k a0_0 true _ A14.out).mono ?_);rintro e w' ⟨rfl,⟨nd,rfl⟩⟩) | (go_at_call 41;(with_reducible refine (spec_l7Op.calls k a0_1 true _ A16.out).mono ?_);rintro e w' ⟨rfl,⟨nd,rfl⟩⟩) | (go_at_call 33;(with_reducible refine (spec_l7Args.calls k a0_2 true _ A18.out).mono ?_);rintro e w' ⟨rfl,⟨nd,rfl⟩⟩))
      go_meet
      case rel => exact ⟨_,((a0_2.toList != ([]:List UInt8))),q101_,H',⟨q115_⟩,⟨q91_⟩,⟨q70_⟩⟩
     rw [if_neg c20] at H
     have c20b0:(a0_1.toList == ([]:List UInt8)) = false:=beq_eq_false_iff_ne.mpr c20
     have c20b1:(a0_1.toList != ([]:List UInt8)) = true:=bne_iff_ne.mpr c20
     have c20b9:a0_1.toList.isEmpty = false:=(isEmpty_beq _).trans c20b0
     have H':=Aside0.mk H
     clear H
     have hcz22_0:w3.cell? ⟨gb195,0,none⟩ = some (.string a0_0):=bz_ BK195 0
     have hcz22_1:w3.cell? ⟨gb195,1,none⟩ = some (.string a0_1):=bz_ BK195 1
     have hcz22_2:w3.cell? ⟨gb195,2,none⟩ = some (.string a0_2):=bz_ BK195 2
     have hfz22_0:=blk_frozen BK195.out 0
     have hfz22_1:=blk_frozen BK195.out 1
     have hfz22_2:=blk_frozen BK195.out 2
     go_wp2_with (first | (go_at_call 40;(with_reducible refine (spec_NameOk.calls k a0_0 true _ A14.out).mono ?_);rintro e w' ⟨rfl,⟨nd,rfl⟩⟩) | (go_at_call 41;(with_reducible refine (spec_l7Op.calls k a0_1 true _ A16.out).mono ?_);rintro e w' ⟨rfl,⟨nd,rfl⟩⟩) | (go_at_call 33;(with_reducible refine (spec_l7Args.calls k a0_2 true _ A18.out).mono ?_);rintro e w' ⟨rfl,⟨nd,rfl⟩⟩))
     go_meet
     case rel => exact ⟨_,(false),q101_,H',⟨q115_⟩,⟨q91_⟩,⟨q70_⟩⟩
    replace c19:=Bool.eq_false_iff.mpr c19
    subst c19
    rewrite [if_neg (show ¬ (false = true) by decide)] at H
    have H':=Aside0.mk H
    clear H
    have hcz23_0:w3.cell? ⟨gb195,0,none⟩ = some (.string a0_0):=bz_ BK195 0
    have hcz23_1:w3.cell? ⟨gb195,1,none⟩ = some (.string a0_1):=bz_ BK195 1
    have hcz23_2:w3.cell? ⟨gb195,2,none⟩ = some (.string a0_2):=bz_ BK195 2
    have hfz23_0:=blk_frozen BK195.out 0
    have hfz23_1:=blk_frozen BK195.out 1
    have hfz23_2:=blk_frozen BK195.out 2
    go_wp2_with (first | (go_at_call 40;(with_reducible refine (spec_NameOk.calls k a0_0 true _ A14.out).mono ?_);rintro e w' ⟨rfl,⟨nd,rfl⟩⟩) | (go_at_call 41;(with_reducible refine (spec_l7Op.calls k a0_1 true _ A16.out).mono ?_);rintro e w' ⟨rfl,⟨nd,rfl⟩⟩) | (go_at_call 33;(with_reducible refine (spec_l7Args.calls k a0_2 false _ A18.out).mono ?_);rintro e w' ⟨rfl,⟨nd,rfl⟩⟩))
    go_meet
    case rel => exact ⟨_,(true),q101_,H',⟨q115_⟩,⟨q91_⟩,⟨q70_⟩⟩
   replace c17:=Bool.eq_false_iff.mpr c17
   subst c17
   rewrite [if_neg (show ¬ (false = true) by decide)] at H
   have H':=Aside0.mk H
   clear H
   have hcz24_0:w3.cell? ⟨gb195,0,none⟩ = some (.string a0_0):=bz_ BK195 0
   have hcz24_1:w3.cell? ⟨gb195,1,none⟩ = some (.string a0_1):=bz_ BK195 1
   have hcz24_2:w3.cell? ⟨gb195,2,none⟩ = some (.string a0_2):=bz_ BK195 2
   have hfz24_0:=blk_frozen BK195.out 0
   have hfz24_1:=blk_frozen BK195.out 1
   have hfz24_2:=blk_frozen BK195.out 2
   go_wp2_with (first | (go_at_call 40;(with_reducible refine (spec_NameOk.calls k a0_0 true _ A14.out).mono ?_);rintro e w' ⟨rfl,⟨nd,rfl⟩⟩) | (go_at_call 41;(with_reducible refine (spec_l7Op.calls k a0_1 false _ A16.out).mono ?_);rintro e w' ⟨rfl,⟨nd,rfl⟩⟩))
   go_meet
   case rel => exact ⟨_,(true),q101_,H',⟨q115_⟩,⟨q91_⟩,⟨q70_⟩⟩
  replace c15:=Bool.eq_false_iff.mpr c15
  subst c15
  rewrite [if_neg (show ¬ (false = true) by decide)] at H
  have H':=Aside0.mk H
  clear H
  have hcz25_0:w3.cell? ⟨gb195,0,none⟩ = some (.string a0_0):=bz_ BK195 0
  have hcz25_1:w3.cell? ⟨gb195,1,none⟩ = some (.string a0_1):=bz_ BK195 1
  have hcz25_2:w3.cell? ⟨gb195,2,none⟩ = some (.string a0_2):=bz_ BK195 2
  have hfz25_0:=blk_frozen BK195.out 0
  have hfz25_1:=blk_frozen BK195.out 1
  have hfz25_2:=blk_frozen BK195.out 2
  go_wp2_with (first | (go_at_call 40;(with_reducible refine (spec_NameOk.calls k a0_0 false _ A14.out).mono ?_);rintro e w' ⟨rfl,⟨nd,rfl⟩⟩))
  go_meet
  case rel => exact ⟨_,(true),q101_,H',⟨q115_⟩,⟨q91_⟩,⟨q70_⟩⟩
 clear HC2
 try clear c1
 try clear c2
 try clear p2
 try clear c4
 try clear c4b0
 try clear c4b1
 try clear c6
 try clear p6
 try clear c8
 try clear c9
 try clear c9b0
 try clear c9b1
 try clear c15
 try clear c17
 try clear c19
 try clear c20
 try clear c20b0
 try clear c20b1
 try clear hcz10_0 hcz10_1 hcz10_2
 try clear hcz11_0 hcz11_1 hcz11_2
 try clear hcz12_0 hcz12_1 hcz12_2
 try clear hcz13_0 hcz13_1 hcz13_2
 try clear hcz21_0 hcz21_1 hcz21_2
 try clear hcz22_0 hcz22_1 hcz22_2
 try clear hcz23_0 hcz23_1 hcz23_2
 try clear hcz24_0 hcz24_1 hcz24_2
 try clear hcz25_0 hcz25_1 hcz25_2
 try clear hfz10_0 hfz10_1 hfz10_2
 try clear hfz11_0 hfz11_1 hfz11_2
 try clear hfz12_0 hfz12_1 hfz12_2
 try clear hfz13_0 hfz13_1 hfz13_2
 try clear hfz21_0 hfz21_1 hfz21_2
 try clear hfz22_0 hfz22_1 hfz22_2
 try clear hfz23_0 hfz23_1 hfz23_2
 try clear hfz24_0 hfz24_1 hfz24_2
 try clear hfz25_0 hfz25_1 hfz25_2
 obtain ⟨kq,x33_1,rfl,HA,HJ1,BK195,HB⟩:=hcut
 cases kq with
 | zero => exact absurd HA.out (by simp [spec_LineOk.j0])
 | succ kj1 =>
  have H:=HA.out
  clear HA
  simp only [spec_LineOk.j0] at H
  by_cases c26:x33_1 = true
  ·subst c26
   rewrite [if_pos rfl] at H
   obtain rfl:=Option.some.inj H
   go_wp2
   go_ret
   exact ⟨q84_,q70_⟩
  replace c26:=Bool.eq_false_iff.mpr c26
  subst c26
  rewrite [if_neg (show ¬ (false = true) by decide)] at H
  replace H:=Option.bind_eq_some_iff.mp H
  obtain ⟨t201,A270,H⟩:=H
  have A27:=Aside0.mk A270
  clear A270
  obtain rfl:=Option.some.inj H
  have hcz28_0:wc.cell? ⟨gb195,0,none⟩ = some (.string a0_0):=bz_ BK195 0
  have hcz28_1:wc.cell? ⟨gb195,1,none⟩ = some (.string a0_1):=bz_ BK195 1
  have hcz28_2:wc.cell? ⟨gb195,2,none⟩ = some (.string a0_2):=bz_ BK195 2
  have hfz28_0:=blk_frozen BK195.out 0
  have hfz28_1:=blk_frozen BK195.out 1
  have hfz28_2:=blk_frozen BK195.out 2
  go_wp2_with (first | ((with_reducible refine gate_callee (f:=37) rfl ?_);refine goesL_ (some 35) rfl rfl Tryd.func37 (by kernel_rfl) rfl #[.agg #[.string a0_0,.string a0_1,.string a0_2]] rfl q82_ ?_;(with_reducible refine (spec_l7Text.calls kj1 a0_0 a0_1 a0_2 t201 _ A27.out).mono ?_);rintro e w29 ⟨rfl,hb⟩;refine ⟨_,rfl,?_⟩;have n0_:=Aside0.mk (blk_below (g:=gb195) (o:=.cells #[.string a0_0,.string a0_1,.string a0_2] 29 (0,0)) q91_ hb);have n1_:=Aside0.mk (below_step q70_ hb);clear BK195;clear HB;have BK195:=n0_;have HB:=n1_;clear n0_ n1_;(try clear hb)))
  go_ret
  exact ⟨q84_,q70_⟩
def spec_LineText.f (k:Nat) (a0_0:ByteArray) (a0_1:ByteArray) (a0_2:ByteArray):Option (ByteArray):=(spec_LineOk.f k a0_0 a0_1 a0_2).bind fun t203 => (if t203 = true then ((spec_l7Text.f k a0_0 a0_1 a0_2).bind fun t204 => (some t204)) else (some (⟨#[]⟩:ByteArray)))
theorem spec_LineText.calls (k:Nat) (a0_0:ByteArray) (a0_1:ByteArray) (a0_2:ByteArray) (r:ByteArray) (w:World) (h:spec_LineText.f k a0_0 a0_1 a0_2 = some r) :
  Calls Tryd.prog 13 #[.agg #[.string a0_0,.string a0_1,.string a0_2]] w fun e w' => e = .returned (.string r) ∧ Below w.heap.size w w':=by
 have hu29:=Tryd.underlying29
 have HB:=Aside0.mk (Below.refl w.heap.size w)
 have H:=h;unfold spec_LineText.f at H
 clear h
 replace H:=Option.bind_eq_some_iff.mp H
 obtain ⟨t203,A20,H⟩:=H
 have A2:=Aside0.mk A20
 clear A20
 by_cases c3:t203 = true
 ·subst c3
  rewrite [if_pos rfl] at H
  replace H:=Option.bind_eq_some_iff.mp H
  obtain ⟨t204,A40,H⟩:=H
  have A4:=Aside0.mk A40
  clear A40
  obtain rfl:=Option.some.inj H
  go_enter Tryd.func13,Tryd.ntmps13
  go_wp2_with (first | ((with_reducible refine gate_dst (N:=1) rfl ?_);refine box_event ?hg (N:=1) ?hd (cs:=#[.string a0_0,.string a0_1,.string a0_2]) (t:=29) ?hr ?_;(case hd => rfl);(case hg => rfl);(case hr => exact q130_);intro gb202 hg w5 hbox hb;have n0_:=Aside0.mk (below_step q83_ hb);have n1_:=Aside0.mk (hbox);have n2_:=Aside0.mk ((q64_:w.heap.size ≤ gb202));have n3_:=Aside0.mk ((q64_:w.heap.size ≤ gb202));clear HB;have HB:=n0_;have BK202:=n1_;have GW202:=n2_;have GE202:=n3_;clear n0_ n1_ n2_ n3_;clear hb hbox hg;have hcz6_0:w5.cell? ⟨gb202,0,none⟩ = some (.string a0_0):=(blk_cell BK202.out 0).trans rfl;have hcz6_1:w5.cell? ⟨gb202,1,none⟩ = some (.string a0_1):=(blk_cell BK202.out 1).trans rfl;have hcz6_2:w5.cell? ⟨gb202,2,none⟩ = some (.string a0_2):=(blk_cell BK202.out 2).trans rfl;have hfz6_0:=blk_frozen BK202.out 0;have hfz6_1:=blk_frozen BK202.out 1;have hfz6_2:=blk_frozen BK202.out 2) | ((with_reducible refine gate_callee (f:=15) rfl ?_);refine goesL_ (some 4) rfl rfl Tryd.func15 (by kernel_rfl) rfl #[.agg #[.string a0_0,.string a0_1,.string a0_2]] rfl q82_ ?_;(with_reducible refine (spec_LineOk.calls k a0_0 a0_1 a0_2 true _ A2.out).mono ?_);rintro e w7 ⟨rfl,hb⟩;refine ⟨_,rfl,?_⟩;have n0_:=Aside0.mk (blk_below (g:=gb202) (o:=.cells #[.string a0_0,.string a0_1,.string a0_2] 29 (0,0)) q92_ hb);have n1_:=Aside0.mk (below_step q71_ hb);clear BK202;clear HB;have BK202:=n0_;have HB:=n1_;clear n0_ n1_;(try clear hb);have hcz8_0:w7.cell? ⟨gb202,0,none⟩ = some (.string a0_0):=(blk_cell BK202.out 0).trans rfl;have hcz8_1:w7.cell? ⟨gb202,1,none⟩ = some (.string a0_1):=(blk_cell BK202.out 1).trans rfl;have hcz8_2:w7.cell? ⟨gb202,2,none⟩ = some (.string a0_2):=(blk_cell BK202.out 2).trans rfl;have hfz8_0:=blk_frozen BK202.out 0;have hfz8_1:=blk_frozen BK202.out 1;have hfz8_2:=blk_frozen BK202.out 2) | ((with_reducible refine gate_callee (f:=37) rfl ?_);refine goesL_ (some 7) rfl rfl Tryd.func37 (by kernel_rfl) rfl #[.agg #[.string a0_0,.string a0_1,.string a0_2]] rfl q82_ ?_;(with_reducible refine (spec_l7Text.calls k a0_0 a0_1 a0_2 t204 _ A4.out).mono ?_);rintro e w9 ⟨rfl,hb⟩;refine ⟨_,rfl,?_⟩;have n0_:=Aside0.mk (blk_below (g:=gb202) (o:=.cells #[.string a0_0,.string a0_1,.string a0_2] 29 (0,0)) q92_ hb);have n1_:=Aside0.mk (below_step q71_ hb);clear BK202;clear HB;have BK202:=n0_;have HB:=n1_;clear n0_ n1_;(try clear hb)))
  go_ret
  exact ⟨q84_,q71_⟩
 replace c3:=Bool.eq_false_iff.mpr c3
 subst c3
 rewrite [if_neg (show ¬ (false = true) by decide)] at H
 obtain rfl:=Option.some.inj H
 go_enter Tryd.func13,Tryd.ntmps13
 go_wp2_with (first | ((with_reducible refine gate_dst (N:=1) rfl ?_);refine box_event ?hg (N:=1) ?hd (cs:=#[.string a0_0,.string a0_1,.string a0_2]) (t:=29) ?hr ?_;(case hd => rfl);(case hg => rfl);(case hr => exact q130_);intro gb202 hg w10 hbox hb;have n0_:=Aside0.mk (below_step q83_ hb);have n1_:=Aside0.mk (hbox);have n2_:=Aside0.mk ((q64_:w.heap.size ≤ gb202));have n3_:=Aside0.mk ((q64_:w.heap.size ≤ gb202));clear HB;have HB:=n0_;have BK202:=n1_;have GW202:=n2_;have GE202:=n3_;clear n0_ n1_ n2_ n3_;clear hb hbox hg;have hcz11_0:w10.cell? ⟨gb202,0,none⟩ = some (.string a0_0):=(blk_cell BK202.out 0).trans rfl;have hcz11_1:w10.cell? ⟨gb202,1,none⟩ = some (.string a0_1):=(blk_cell BK202.out 1).trans rfl;have hcz11_2:w10.cell? ⟨gb202,2,none⟩ = some (.string a0_2):=(blk_cell BK202.out 2).trans rfl;have hfz11_0:=blk_frozen BK202.out 0;have hfz11_1:=blk_frozen BK202.out 1;have hfz11_2:=blk_frozen BK202.out 2) | ((with_reducible refine gate_callee (f:=15) rfl ?_);refine goesL_ (some 4) rfl rfl Tryd.func15 (by kernel_rfl) rfl #[.agg #[.string a0_0,.string a0_1,.string a0_2]] rfl q82_ ?_;(with_reducible refine (spec_LineOk.calls k a0_0 a0_1 a0_2 false _ A2.out).mono ?_);rintro e w12 ⟨rfl,hb⟩;refine ⟨_,rfl,?_⟩;have n0_:=Aside0.mk (blk_below (g:=gb202) (o:=.cells #[.string a0_0,.string a0_1,.string a0_2] 29 (0,0)) q92_ hb);have n1_:=Aside0.mk (below_step q71_ hb);clear BK202;clear HB;have BK202:=n0_;have HB:=n1_;clear n0_ n1_;(try clear hb)))
 go_ret
 exact ⟨q84_,q71_⟩
def impl_trimmed.f (a0:ByteArray):Option (ByteArray):=(strings_Trim.f a0 (⟨#[32]⟩:ByteArray)).bind fun t205 => (some t205)
theorem impl_trimmed.calls (a0:ByteArray) (r:ByteArray) (w:World) (h:impl_trimmed.f a0 = some r) :
  Calls Tryd.prog 43 #[.string a0] w fun e w' => e = .returned (.string r) ∧ Drawn0 w w':=by
 have H:=h;unfold impl_trimmed.f at H
 clear h
 replace H:=Option.bind_eq_some_iff.mp H
 obtain ⟨t205,A20,H⟩:=H
 have A2:=Aside0.mk A20
 clear A20
 obtain rfl:=Option.some.inj H
 go_enter Tryd.func43,Tryd.ntmps43
 go_wp2_with (first | ((with_reducible refine gate_callee (f:=63) rfl ?_);refine goesL_ (some 4) rfl rfl Tryd.func63 (by kernel_rfl) rfl #[.string a0,.string (⟨#[32]⟩:ByteArray)] rfl q82_ ?_;(with_reducible refine (strings_Trim.calls a0 (⟨#[32]⟩:ByteArray) t205 _ A2.out).mono ?_);rintro e w' ⟨rfl,⟨nd,rfl⟩⟩;refine ⟨_,rfl,?_⟩))
 go_ret
 exact ⟨q101_,q108_⟩
mutual
def impl_ReadLine.j0:Nat → ByteArray → ByteArray → ByteArray → Bool → ByteArray → ByteArray → ByteArray → Option (ByteArray × ByteArray × ByteArray × Bool)
 | 0,_,_,_,_,_,_,_ => none
 | k + 1,x4,x6,x7,x36,x212000,x212001,x212002 => if x36 = true then ((impl_trimmed.f x6).bind fun t217 => ((impl_trimmed.f x7).bind fun t218 => (impl_ReadLine.j1 k t218 t217 x212001 x212002))) else (impl_ReadLine.j1 k x4 x212000 x212001 x212002)
def impl_ReadLine.j1:Nat → ByteArray → ByteArray → ByteArray → ByteArray → Option (ByteArray × ByteArray × ByteArray × Bool)
 | 0,_,_,_,_ => none
 | k + 1,x4,x212000,x212001,x212002 => (strings_Cut.f x4 (⟨#[32]⟩:ByteArray)).bind fun bt219 => ((impl_tidied.f bt219.2.1).bind fun t222 => ((impl_LineOk.f k x212000 bt219.1 t222).bind fun t223 => (if t223 = true then (some (x212000,bt219.1,t222,true)) else (some ((⟨#[]⟩:ByteArray),(⟨#[]⟩:ByteArray),(⟨#[]⟩:ByteArray),false)))))
end
def impl_ReadLine.f (k:Nat) (a0:ByteArray):Option (ByteArray × ByteArray × ByteArray × Bool):=if (a0.size:Int) > 240 then (some ((⟨#[]⟩:ByteArray),(⟨#[]⟩:ByteArray),(⟨#[]⟩:ByteArray),false)) else ((strings_Cut.f a0 (⟨#[59]⟩:ByteArray)).bind fun bt207 => ((impl_trimmed.f bt207.1).bind fun t210 => ((strings_Cut.f t210 (⟨#[58]⟩:ByteArray)).bind fun bt212 => (if bt212.2.2 = true then ((impl_trimmed.f bt212.1).bind fun t215 => ((impl_NameOk.f k t215).bind fun t216 => (impl_ReadLine.j0 k t210 bt212.1 bt212.2.1 t216 (⟨#[]⟩:ByteArray) (⟨#[]⟩:ByteArray) (⟨#[]⟩:ByteArray)))) else (impl_ReadLine.j0 k t210 bt212.1 bt212.2.1 false (⟨#[]⟩:ByteArray) (⟨#[]⟩:ByteArray) (⟨#[]⟩:ByteArray))))))
theorem impl_ReadLine.calls (k:Nat) (a0:ByteArray) (r1:ByteArray) (r2:ByteArray) (r3:ByteArray) (r4:Bool) (w:World) (h:impl_ReadLine.f k a0 = some (r1,r2,r3,r4)) (hG:Go.Proofs.YtoiiaklmjpiejaaDoor.LibW.GL w:=by first | exact hG | exact hG.below q18_ | exact hG.drewN _) :
  Calls Tryd.prog 16 #[.string a0] w fun e w' => e = .returned (.tuple #[.agg #[.string r1,.string r2,.string r3],.bool r4]) ∧ Below w.heap.size w w':=by
 have hu29:=Tryd.underlying29
 have HB:=Aside0.mk (Below.refl w.heap.size w)
 have H:=h;unfold impl_ReadLine.f at H
 clear h
 by_cases c2:(a0.size:Int) > 240
 ·rw [if_pos c2] at H
  have c2b0:decide (240 < (a0.size:Int)) = true:=decide_eq_true c2
  have c2b1:decide (240 < a0.size) = true:=decide_eq_true (by omega)
  clear c2
  simp only [Option.some.injEq,Prod.mk.injEq] at H
  obtain ⟨rfl,rfl,rfl,rfl⟩:=H
  go_enter Tryd.func16,Tryd.ntmps16
  go_wp2_with (first | ((with_reducible refine gate_dst (N:=2) rfl ?_);refine box_event ?hg (N:=2) ?hd (cs:=#[.string (⟨#[]⟩:ByteArray),.string (⟨#[]⟩:ByteArray),.string (⟨#[]⟩:ByteArray)]) (t:=29) ?hr ?_;(case hd => rfl);(case hg => rfl);(case hr => exact q130_);intro gb206 hg w3 hbox hb;have n0_:=Aside0.mk (below_step q83_ hb);have n1_:=Aside0.mk (hbox);have n2_:=Aside0.mk ((q64_:w.heap.size ≤ gb206));have n3_:=Aside0.mk ((q64_:w.heap.size ≤ gb206));clear HB;have HB:=n0_;have BK206:=n1_;have GW206:=n2_;have GE206:=n3_;clear n0_ n1_ n2_ n3_;clear hb hbox hg;have hcz4_0:w3.cell? ⟨gb206,0,none⟩ = some (.string (⟨#[]⟩:ByteArray)):=(blk_cell BK206.out 0).trans rfl;have hcz4_1:w3.cell? ⟨gb206,1,none⟩ = some (.string (⟨#[]⟩:ByteArray)):=(blk_cell BK206.out 1).trans rfl;have hcz4_2:w3.cell? ⟨gb206,2,none⟩ = some (.string (⟨#[]⟩:ByteArray)):=(blk_cell BK206.out 2).trans rfl;have hfz4_0:=blk_frozen BK206.out 0;have hfz4_1:=blk_frozen BK206.out 1;have hfz4_2:=blk_frozen BK206.out 2))
  refine bodyPost_ret (results_ct rfl _ _ gb206 29 #[.string (⟨#[]⟩:ByteArray),.string (⟨#[]⟩:ByteArray),.string (⟨#[]⟩:ByteArray)] (0,0) _ rfl q0_ Tryd.underlying29 rfl (by kernel_rfl)) rfl ?_
  exact ⟨q84_,q72_⟩
 rw [if_neg c2] at H
 have c2b0:decide (240 < (a0.size:Int)) = false:=decide_eq_false c2
 have c2b1:decide (240 < a0.size) = false:=decide_eq_false (by omega)
 clear c2
 replace H:=Option.bind_eq_some_iff.mp H
 obtain ⟨⟨t207,t208,t209⟩,A50,H⟩:=H
 try dsimp -simprocs -eta only at H
 have A5:=Aside0.mk A50
 clear A50
 replace H:=Option.bind_eq_some_iff.mp H
 obtain ⟨t210,A60,H⟩:=H
 have A6:=Aside0.mk A60
 clear A60
 replace H:=Option.bind_eq_some_iff.mp H
 obtain ⟨⟨t212,t213,t214⟩,A70,H⟩:=H
 try dsimp -simprocs -eta only at H
 have A7:=Aside0.mk A70
 clear A70
 have HC8:=Aside0.mk H
 clear H
 go_enter Tryd.func16,Tryd.ntmps16
 go_upto_region 7 with (first | ((with_reducible refine gate_dst (N:=2) rfl ?_);refine box_event ?hg (N:=2) ?hd (cs:=#[.string (⟨#[]⟩:ByteArray),.string (⟨#[]⟩:ByteArray),.string (⟨#[]⟩:ByteArray)]) (t:=29) ?hr ?_;(case hd => rfl);(case hg => rfl);(case hr => exact q130_);intro gb206 hg w9 hbox hb;have n0_:=Aside0.mk (below_step q83_ hb);have n1_:=Aside0.mk (hbox);have n2_:=Aside0.mk ((q64_:w.heap.size ≤ gb206));have n3_:=Aside0.mk ((q64_:w.heap.size ≤ gb206));clear HB;have HB:=n0_;have BK206:=n1_;have GW206:=n2_;have GE206:=n3_;clear n0_ n1_ n2_ n3_;clear hb hbox hg) | ((with_reducible refine gate_callee (f:=42) rfl ?_);refine goesL_ (some 18) rfl rfl Tryd.func42 (by kernel_rfl) rfl #[.string a0,.string (⟨#[59]⟩:ByteArray)] rfl q82_ ?_;(with_reducible refine (strings_Cut.calls a0 (⟨#[59]⟩:ByteArray) t207 t208 t209 _ A5.out).mono ?_);rintro e w' ⟨rfl,⟨nd,rfl⟩⟩;refine ⟨_,rfl,?_⟩;(try (rw [drewN_self w9];generalize hq_:World.drewN w9 _ = w9;have n0_:Aside0 (w9.heap[gb206]? = some (.cells #[.string (⟨#[]⟩:ByteArray),.string (⟨#[]⟩:ByteArray),.string (⟨#[]⟩:ByteArray)] 29 (0,0))):=⟨q78_⟩;have n1_:Aside0 (Below w.heap.size w w9):=⟨q57_⟩;clear BK206 HB hq_;have BK206:=n0_;have HB:=n1_;clear n0_ n1_))) | ((with_reducible refine gate_callee (f:=43) rfl ?_);refine goesL_ (some 23) rfl rfl Tryd.func43 (by kernel_rfl) rfl #[.string t207] rfl q82_ ?_;(with_reducible refine (impl_trimmed.calls t207 t210 _ A6.out).mono ?_);rintro e w' ⟨rfl,⟨nd,rfl⟩⟩;refine ⟨_,rfl,?_⟩;(try (rw [drewN_self w9];generalize hq_:World.drewN w9 _ = w9;have n0_:Aside0 (w9.heap[gb206]? = some (.cells #[.string (⟨#[]⟩:ByteArray),.string (⟨#[]⟩:ByteArray),.string (⟨#[]⟩:ByteArray)] 29 (0,0))):=⟨q78_⟩;have n1_:Aside0 (Below w.heap.size w w9):=⟨q57_⟩;clear BK206 HB hq_;have BK206:=n0_;have HB:=n1_;clear n0_ n1_))) | ((with_reducible refine gate_dst (N:=5) rfl ?_);refine box_event ?hg (N:=5) ?hd (cs:=#[.string (⟨#[]⟩:ByteArray),.string (⟨#[]⟩:ByteArray),.string (⟨#[]⟩:ByteArray)]) (t:=29) ?hr ?_;(case hd => rfl);(case hg => rfl);(case hr => exact q130_);intro gb211 hg w10 hbox hb;have n0_:=Aside0.mk (blk_below (g:=gb206) (o:=.cells #[.string (⟨#[]⟩:ByteArray),.string (⟨#[]⟩:ByteArray),.string (⟨#[]⟩:ByteArray)] 29 (0,0)) q93_ hb);have n1_:=Aside0.mk (below_step q72_ hb);have n2_:=Aside0.mk (hbox);have n3_:=Aside0.mk ((q49_:w.heap.size ≤ gb211));have n4_:=Aside0.mk ((q49_:w.heap.size ≤ gb211));have n5_:=Aside0.mk ((by rw [hg];exact Nat.ne_of_lt (blk_lt (g:=gb206) (o:=.cells #[.string (⟨#[]⟩:ByteArray),.string (⟨#[]⟩:ByteArray),.string (⟨#[]⟩:ByteArray)] 29 (0,0)) q93_):gb206 ≠ gb211));have n6_:=Aside0.mk ((by rw [hg];exact Nat.ne_of_gt (blk_lt (g:=gb206) (o:=.cells #[.string (⟨#[]⟩:ByteArray),.string (⟨#[]⟩:ByteArray),.string (⟨#[]⟩:ByteArray)] 29 (0,0)) q93_):gb211 ≠ gb206));clear BK206;clear HB;have BK206:=n0_;have HB:=n1_;have BK211:=n2_;have GW211:=n3_;have GE211:=n4_;have NB206_211:=n5_;have NB211_206:=n6_;clear n0_ n1_ n2_ n3_ n4_ n5_ n6_;clear hb hbox hg;have hnb11:=NB211_206.out;have hnc11:=NB206_211.out;have hcz12_0:w10.cell? ⟨gb211,0,none⟩ = some (.string (⟨#[]⟩:ByteArray)):=(blk_cell BK211.out 0).trans rfl;have hcz12_1:w10.cell? ⟨gb211,1,none⟩ = some (.string (⟨#[]⟩:ByteArray)):=(blk_cell BK211.out 1).trans rfl;have hcz12_2:w10.cell? ⟨gb211,2,none⟩ = some (.string (⟨#[]⟩:ByteArray)):=(blk_cell BK211.out 2).trans rfl;have hfz12_0:=blk_frozen BK211.out 0;have hfz12_1:=blk_frozen BK211.out 1;have hfz12_2:=blk_frozen BK211.out 2) | ((with_reducible refine gate_callee (f:=42) rfl ?_);refine goesL_ (some 27) rfl rfl Tryd.func42 (by kernel_rfl) rfl #[.string t210,.string (⟨#[58]⟩:ByteArray)] rfl q82_ ?_;(with_reducible refine (strings_Cut.calls t210 (⟨#[58]⟩:ByteArray) t212 t213 t214 _ A7.out).mono ?_);rintro e w' ⟨rfl,⟨nd,rfl⟩⟩;refine ⟨_,rfl,?_⟩))
 (try simp only [Act.put,List.setIfInBounds_toArray,List.set_cons_zero,List.set_cons_succ])
 go_cut [36] (fun v36 wc => ∃ (kq:Nat) (x36_7:Bool),v36 = .bool x36_7 ∧ Aside0 (impl_ReadLine.j0 kq t210 t212 t213 x36_7 (⟨#[]⟩:ByteArray) (⟨#[]⟩:ByteArray) (⟨#[]⟩:ByteArray) = some (r1,r2,r3,r4)) ∧ Aside0 (kq ≤ k) ∧ Aside0 (wc.heap[gb206]? = some (.cells #[.string (⟨#[]⟩:ByteArray),.string (⟨#[]⟩:ByteArray),.string (⟨#[]⟩:ByteArray)] 29 (0,0))) ∧ Aside0 (wc.heap[gb211]? = some (.cells #[.string (⟨#[]⟩:ByteArray),.string (⟨#[]⟩:ByteArray),.string (⟨#[]⟩:ByteArray)] 29 (0,0))) ∧ Aside0 (Below w.heap.size w wc))
 case first =>
  have H:=HC8.out
  clear HC8
  by_cases c13:t214 = true
  ·subst c13
   rewrite [if_pos rfl] at H
   replace H:=Option.bind_eq_some_iff.mp H
   obtain ⟨t215,A140,H⟩:=H
   have A14:=Aside0.mk A140
   clear A140
   replace H:=Option.bind_eq_some_iff.mp H
   obtain ⟨t216,A150,H⟩:=H
   have A15:=Aside0.mk A150
   clear A150
   have H':=Aside0.mk H
   clear H
   go_wp2_with (first | (go_at_call 43;(with_reducible refine (impl_trimmed.calls t212 t215 _ A14.out).mono ?_);rintro e w' ⟨rfl,⟨nd,rfl⟩⟩) | (go_at_call 38;(with_reducible refine (impl_NameOk.calls k t215 t216 _ A15.out).mono ?_);rintro e w' ⟨rfl,⟨nd,rfl⟩⟩))
   go_meet
   case rel => exact ⟨_,(t216),q101_,H',⟨q115_⟩,⟨q9_⟩,⟨q1_⟩,⟨q52_⟩⟩
  replace c13:=Bool.eq_false_iff.mpr c13
  subst c13
  rewrite [if_neg (show ¬ (false = true) by decide)] at H
  have H':=Aside0.mk H
  clear H
  go_wp2
  go_meet
  case rel => exact ⟨_,(false),q101_,H',⟨q115_⟩,⟨q9_⟩,⟨q1_⟩,⟨q52_⟩⟩
 clear HC8
 try clear c1
 try clear c2
 try clear c2b0
 try clear c2b1
 try clear p2
 try clear c4
 try clear p6
 try clear c11
 try clear c13
 try clear hcz12_0 hcz12_1 hcz12_2
 try clear hcz4_0 hcz4_1 hcz4_2
 try clear hfz12_0 hfz12_1 hfz12_2
 try clear hfz4_0 hfz4_1 hfz4_2
 obtain ⟨kq,x36_7,rfl,HA,HJ7,BK206,BK211,HB⟩:=hcut
 cases kq with
 | zero => exact absurd HA.out (by simp [impl_ReadLine.j0])
 | succ kj7 =>
  have H:=HA.out
  clear HA
  simp only [impl_ReadLine.j0] at H
  have HC16:=Aside0.mk H
  clear H
  go_upto_if 36 with (fail)
  go_cut [4] (fun v4 wc => ∃ (kq:Nat) (x4_15:ByteArray) (x212000_15:ByteArray),v4 = .string x4_15 ∧ Aside0 (impl_ReadLine.j1 kq x4_15 x212000_15 (⟨#[]⟩:ByteArray) (⟨#[]⟩:ByteArray) = some (r1,r2,r3,r4)) ∧ Aside0 (kq ≤ kj7) ∧ Aside0 (wc.heap[gb206]? = some (.cells #[.string (⟨#[]⟩:ByteArray),.string (⟨#[]⟩:ByteArray),.string (⟨#[]⟩:ByteArray)] 29 (0,0))) ∧ Aside0 (wc.heap[gb211]? = some (.cells #[.string x212000_15,.string (⟨#[]⟩:ByteArray),.string (⟨#[]⟩:ByteArray)] 29 (0,0))) ∧ Aside0 (Below w.heap.size w wc))
  case first =>
   have H:=HC16.out
   clear HC16
   by_cases c17:x36_7 = true
   ·subst c17
    rewrite [if_pos rfl] at H
    replace H:=Option.bind_eq_some_iff.mp H
    obtain ⟨t217,A180,H⟩:=H
    have A18:=Aside0.mk A180
    clear A180
    replace H:=Option.bind_eq_some_iff.mp H
    obtain ⟨t218,A190,H⟩:=H
    have A19:=Aside0.mk A190
    clear A190
    have H':=Aside0.mk H
    clear H
    go_wp2_with (first | ((with_reducible refine gate_callee (f:=43) rfl ?_);refine goesL_ (some 38) rfl rfl Tryd.func43 (by kernel_rfl) rfl #[.string t212] rfl q82_ ?_;(with_reducible refine (impl_trimmed.calls t212 t217 _ A18.out).mono ?_);rintro e w' ⟨rfl,⟨nd,rfl⟩⟩;refine ⟨_,rfl,?_⟩;(try (rw [drewN_self wc];generalize hq_:World.drewN wc _ = wc;have n0_:Aside0 (wc.heap[gb206]? = some (.cells #[.string (⟨#[]⟩:ByteArray),.string (⟨#[]⟩:ByteArray),.string (⟨#[]⟩:ByteArray)] 29 (0,0))):=⟨q78_⟩;have n1_:Aside0 (wc.heap[gb211]? = some (.cells #[.string (⟨#[]⟩:ByteArray),.string (⟨#[]⟩:ByteArray),.string (⟨#[]⟩:ByteArray)] 29 (0,0))):=⟨q79_⟩;have n2_:Aside0 (Below w.heap.size w wc):=⟨q45_⟩;clear BK206 BK211 HB hq_;have BK206:=n0_;have BK211:=n1_;have HB:=n2_;clear n0_ n1_ n2_));have hnb20:=NB211_206.out;have hnc20:=NB206_211.out;have hcz21_0:wc.cell? ⟨gb211,0,none⟩ = some (.string (⟨#[]⟩:ByteArray)):=(blk_cell BK211.out 0).trans rfl;have hcz21_1:wc.cell? ⟨gb211,1,none⟩ = some (.string (⟨#[]⟩:ByteArray)):=(blk_cell BK211.out 1).trans rfl;have hcz21_2:wc.cell? ⟨gb211,2,none⟩ = some (.string (⟨#[]⟩:ByteArray)):=(blk_cell BK211.out 2).trans rfl;have hfz21_0:=blk_frozen BK211.out 0;have hfz21_1:=blk_frozen BK211.out 1;have hfz21_2:=blk_frozen BK211.out 2) | ((with_reducible refine gate_callee (f:=43) rfl ?_);refine goesL_ (some 41) rfl rfl Tryd.func43 (by kernel_rfl) rfl #[.string t213] rfl q82_ ?_;(with_reducible refine (impl_trimmed.calls t213 t218 _ A19.out).mono ?_);rintro e w' ⟨rfl,⟨nd,rfl⟩⟩;refine ⟨_,rfl,?_⟩))
    go_meet
    case rel => exact ⟨_,(t218),(t217),q101_,H',⟨q109_⟩,⟨by (with_reducible repeat (first | refine blk_drewN ?_ _ | refine blk_drew ?_ | refine blk_alloc ?_ _));refine blk_far ?_ NB206_211.out _;(with_reducible repeat (first | refine blk_drewN ?_ _ | refine blk_drew ?_ | refine blk_alloc ?_ _));exact BK206.out⟩,⟨by (with_reducible repeat (first | refine blk_drewN ?_ _ | refine blk_drew ?_ | refine blk_alloc ?_ _));refine blk_put (cs:=#[.string (⟨#[]⟩:ByteArray),.string (⟨#[]⟩:ByteArray),.string (⟨#[]⟩:ByteArray)]) ?_ 0 _ rfl;(with_reducible repeat (first | refine blk_drewN ?_ _ | refine blk_drew ?_ | refine blk_alloc ?_ _));exact BK211.out⟩,⟨q52_⟩⟩
   replace c17:=Bool.eq_false_iff.mpr c17
   subst c17
   rewrite [if_neg (show ¬ (false = true) by decide)] at H
   have H':=Aside0.mk H
   clear H
   go_wp2
   go_meet
   case rel => exact ⟨_,(t210),((⟨#[]⟩:ByteArray)),q101_,H',⟨q109_⟩,⟨q93_⟩,⟨q94_⟩,⟨q52_⟩⟩
  clear HC16
  try clear c1
  try clear c2
  try clear c2b0
  try clear c2b1
  try clear p2 p2
  try clear c4
  try clear p6 p6
  try clear c11
  try clear c13
  try clear c16
  try clear c17
  try clear c20
  try clear hcz12_0 hcz12_1 hcz12_2
  try clear hcz21_0 hcz21_1 hcz21_2
  try clear hcz4_0 hcz4_1 hcz4_2
  try clear hfz12_0 hfz12_1 hfz12_2
  try clear hfz21_0 hfz21_1 hfz21_2
  try clear hfz4_0 hfz4_1 hfz4_2
  obtain ⟨kq,x4_15,x212000_15,rfl,HA,HJ15,BK206,BK211,HB⟩:=hcut
  cases kq with
  | zero => exact absurd HA.out (by simp [impl_ReadLine.j1])
  | succ kj15 =>
   have H:=HA.out
   clear HA
   simp only [impl_ReadLine.j1] at H
   replace H:=Option.bind_eq_some_iff.mp H
   obtain ⟨⟨t219,t220,t221⟩,A220,H⟩:=H
   try dsimp -simprocs -eta only at H
   have A22:=Aside0.mk A220
   clear A220
   replace H:=Option.bind_eq_some_iff.mp H
   obtain ⟨t222,A230,H⟩:=H
   have A23:=Aside0.mk A230
   clear A230
   replace H:=Option.bind_eq_some_iff.mp H
   obtain ⟨t223,A240,H⟩:=H
   have A24:=Aside0.mk A240
   clear A240
   by_cases c25:t223 = true
   ·subst c25
    rewrite [if_pos rfl] at H
    simp only [Option.some.injEq,Prod.mk.injEq] at H
    obtain ⟨rfl,rfl,rfl,rfl⟩:=H
    go_wp2_with (first | ((with_reducible refine gate_callee (f:=42) rfl ?_);refine goesL_ (some 44) rfl rfl Tryd.func42 (by kernel_rfl) rfl #[.string x4_15,.string (⟨#[32]⟩:ByteArray)] rfl q82_ ?_;(with_reducible refine (strings_Cut.calls x4_15 (⟨#[32]⟩:ByteArray) t219 t220 t221 _ A22.out).mono ?_);rintro e w' ⟨rfl,⟨nd,rfl⟩⟩;refine ⟨_,rfl,?_⟩;(try (rw [drewN_self wc];generalize hq_:World.drewN wc _ = wc;have n0_:Aside0 (wc.heap[gb206]? = some (.cells #[.string (⟨#[]⟩:ByteArray),.string (⟨#[]⟩:ByteArray),.string (⟨#[]⟩:ByteArray)] 29 (0,0))):=⟨q78_⟩;have n1_:Aside0 (wc.heap[gb211]? = some (.cells #[.string x212000_15,.string (⟨#[]⟩:ByteArray),.string (⟨#[]⟩:ByteArray)] 29 (0,0))):=⟨q79_⟩;have n2_:Aside0 (Below w.heap.size w wc):=⟨q45_⟩;clear BK206 BK211 HB hq_;have BK206:=n0_;have BK211:=n1_;have HB:=n2_;clear n0_ n1_ n2_))) | ((with_reducible refine gate_callee (f:=44) rfl ?_);refine goesL_ (some 50) rfl rfl Tryd.func44 (by kernel_rfl) rfl #[.string t220] rfl q82_ ?_;(with_reducible refine (impl_tidied.calls t220 t222 _ A23.out).mono ?_);rintro e w26 ⟨rfl,hb⟩;refine ⟨_,rfl,?_⟩;have n0_:=Aside0.mk (blk_below (g:=gb206) (o:=.cells #[.string (⟨#[]⟩:ByteArray),.string (⟨#[]⟩:ByteArray),.string (⟨#[]⟩:ByteArray)] 29 (0,0)) q93_ hb);have n1_:=Aside0.mk (blk_below (g:=gb211) (o:=.cells #[.string x212000_15,.string (⟨#[]⟩:ByteArray),.string (⟨#[]⟩:ByteArray)] 29 (0,0)) q94_ hb);have n2_:=Aside0.mk (below_step q52_ hb);clear BK206;clear BK211;clear HB;have BK206:=n0_;have BK211:=n1_;have HB:=n2_;clear n0_ n1_ n2_;(try clear hb);have hnb27:=NB211_206.out;have hnc27:=NB206_211.out;have hcz28_0:w26.cell? ⟨gb211,0,none⟩ = some (.string x212000_15):=(blk_cell BK211.out 0).trans rfl;have hcz28_1:w26.cell? ⟨gb211,1,none⟩ = some (.string (⟨#[]⟩:ByteArray)):=(blk_cell BK211.out 1).trans rfl;have hcz28_2:w26.cell? ⟨gb211,2,none⟩ = some (.string (⟨#[]⟩:ByteArray)):=(blk_cell BK211.out 2).trans rfl;have hfz28_0:=blk_frozen BK211.out 0;have hfz28_1:=blk_frozen BK211.out 1;have hfz28_2:=blk_frozen BK211.out 2) | ((with_reducible refine gate_callee (f:=14) rfl ?_);refine goesL_ (some 54) rfl rfl Tryd.func14 (by kernel_rfl) rfl #[.agg #[.string x212000_15,.string t219,.string t222]] rfl q82_ ?_;(with_reducible refine (impl_LineOk.calls kj15 x212000_15 t219 t222 true _ A24.out).mono ?_);rintro e w29 ⟨rfl,hb⟩;refine ⟨_,rfl,?_⟩;have n0_:=Aside0.mk (blk_below (g:=gb206) (o:=.cells #[.string (⟨#[]⟩:ByteArray),.string (⟨#[]⟩:ByteArray),.string (⟨#[]⟩:ByteArray)] 29 (0,0)) q19_ hb);have n1_:=Aside0.mk (blk_below (g:=gb211) (o:=.cells #[.string x212000_15,.string t219,.string t222] 29 (0,0)) q7_ hb);have n2_:=Aside0.mk (below_step q52_ hb);clear BK206;clear BK211;clear HB;have BK206:=n0_;have BK211:=n1_;have HB:=n2_;clear n0_ n1_ n2_;(try clear hb);have hcz30_0:w29.cell? ⟨gb211,0,none⟩ = some (.string x212000_15):=(blk_cell BK211.out 0).trans rfl;have hcz30_1:w29.cell? ⟨gb211,1,none⟩ = some (.string t219):=(blk_cell BK211.out 1).trans rfl;have hcz30_2:w29.cell? ⟨gb211,2,none⟩ = some (.string t222):=(blk_cell BK211.out 2).trans rfl;have hfz30_0:=blk_frozen BK211.out 0;have hfz30_1:=blk_frozen BK211.out 1;have hfz30_2:=blk_frozen BK211.out 2;have hcz31_0:w29.cell? ⟨gb206,0,none⟩ = some (.string (⟨#[]⟩:ByteArray)):=(blk_cell BK206.out 0).trans rfl;have hcz31_1:w29.cell? ⟨gb206,1,none⟩ = some (.string (⟨#[]⟩:ByteArray)):=(blk_cell BK206.out 1).trans rfl;have hcz31_2:w29.cell? ⟨gb206,2,none⟩ = some (.string (⟨#[]⟩:ByteArray)):=(blk_cell BK206.out 2).trans rfl;have hfz31_0:=blk_frozen BK206.out 0;have hfz31_1:=blk_frozen BK206.out 1;have hfz31_2:=blk_frozen BK206.out 2))
    refine bodyPost_ret (results_ct rfl _ _ gb206 29 #[.string x212000_15,.string t219,.string t222] (0,0) _ rfl (by (with_reducible repeat (first | refine blk_drewN ?_ _ | refine blk_drew ?_ | refine blk_alloc ?_ _));refine blk_put (cs:=#[.string x212000_15,.string t219,.string (⟨#[]⟩:ByteArray)]) ?_ 2 _ rfl;(with_reducible repeat (first | refine blk_drewN ?_ _ | refine blk_drew ?_ | refine blk_alloc ?_ _));refine blk_put (cs:=#[.string x212000_15,.string (⟨#[]⟩:ByteArray),.string (⟨#[]⟩:ByteArray)]) ?_ 1 _ rfl;(with_reducible repeat (first | refine blk_drewN ?_ _ | refine blk_drew ?_ | refine blk_alloc ?_ _));refine blk_put (cs:=#[.string (⟨#[]⟩:ByteArray),.string (⟨#[]⟩:ByteArray),.string (⟨#[]⟩:ByteArray)]) ?_ 0 _ rfl;(with_reducible repeat (first | refine blk_drewN ?_ _ | refine blk_drew ?_ | refine blk_alloc ?_ _));exact BK206.out) Tryd.underlying29 rfl (by kernel_rfl)) rfl ?_
    exact ⟨q84_,q52_⟩
   replace c25:=Bool.eq_false_iff.mpr c25
   subst c25
   rewrite [if_neg (show ¬ (false = true) by decide)] at H
   simp only [Option.some.injEq,Prod.mk.injEq] at H
   obtain ⟨rfl,rfl,rfl,rfl⟩:=H
   go_wp2_with (first | ((with_reducible refine gate_callee (f:=42) rfl ?_);refine goesL_ (some 44) rfl rfl Tryd.func42 (by kernel_rfl) rfl #[.string x4_15,.string (⟨#[32]⟩:ByteArray)] rfl q82_ ?_;(with_reducible refine (strings_Cut.calls x4_15 (⟨#[32]⟩:ByteArray) t219 t220 t221 _ A22.out).mono ?_);rintro e w' ⟨rfl,⟨nd,rfl⟩⟩;refine ⟨_,rfl,?_⟩;(try (rw [drewN_self wc];generalize hq_:World.drewN wc _ = wc;have n0_:Aside0 (wc.heap[gb206]? = some (.cells #[.string (⟨#[]⟩:ByteArray),.string (⟨#[]⟩:ByteArray),.string (⟨#[]⟩:ByteArray)] 29 (0,0))):=⟨q78_⟩;have n1_:Aside0 (wc.heap[gb211]? = some (.cells #[.string x212000_15,.string (⟨#[]⟩:ByteArray),.string (⟨#[]⟩:ByteArray)] 29 (0,0))):=⟨q79_⟩;have n2_:Aside0 (Below w.heap.size w wc):=⟨q45_⟩;clear BK206 BK211 HB hq_;have BK206:=n0_;have BK211:=n1_;have HB:=n2_;clear n0_ n1_ n2_))) | ((with_reducible refine gate_callee (f:=44) rfl ?_);refine goesL_ (some 50) rfl rfl Tryd.func44 (by kernel_rfl) rfl #[.string t220] rfl q82_ ?_;(with_reducible refine (impl_tidied.calls t220 t222 _ A23.out).mono ?_);rintro e w32 ⟨rfl,hb⟩;refine ⟨_,rfl,?_⟩;have n0_:=Aside0.mk (blk_below (g:=gb206) (o:=.cells #[.string (⟨#[]⟩:ByteArray),.string (⟨#[]⟩:ByteArray),.string (⟨#[]⟩:ByteArray)] 29 (0,0)) q93_ hb);have n1_:=Aside0.mk (blk_below (g:=gb211) (o:=.cells #[.string x212000_15,.string (⟨#[]⟩:ByteArray),.string (⟨#[]⟩:ByteArray)] 29 (0,0)) q94_ hb);have n2_:=Aside0.mk (below_step q52_ hb);clear BK206;clear BK211;clear HB;have BK206:=n0_;have BK211:=n1_;have HB:=n2_;clear n0_ n1_ n2_;(try clear hb);have hnb33:=NB211_206.out;have hnc33:=NB206_211.out;have hcz34_0:w32.cell? ⟨gb211,0,none⟩ = some (.string x212000_15):=(blk_cell BK211.out 0).trans rfl;have hcz34_1:w32.cell? ⟨gb211,1,none⟩ = some (.string (⟨#[]⟩:ByteArray)):=(blk_cell BK211.out 1).trans rfl;have hcz34_2:w32.cell? ⟨gb211,2,none⟩ = some (.string (⟨#[]⟩:ByteArray)):=(blk_cell BK211.out 2).trans rfl;have hfz34_0:=blk_frozen BK211.out 0;have hfz34_1:=blk_frozen BK211.out 1;have hfz34_2:=blk_frozen BK211.out 2) | ((with_reducible refine gate_callee (f:=14) rfl ?_);refine goesL_ (some 54) rfl rfl Tryd.func14 (by kernel_rfl) rfl #[.agg #[.string x212000_15,.string t219,.string t222]] rfl q82_ ?_;(with_reducible refine (impl_LineOk.calls kj15 x212000_15 t219 t222 false _ A24.out).mono ?_);rintro e w35 ⟨rfl,hb⟩;refine ⟨_,rfl,?_⟩;have n0_:=Aside0.mk (blk_below (g:=gb206) (o:=.cells #[.string (⟨#[]⟩:ByteArray),.string (⟨#[]⟩:ByteArray),.string (⟨#[]⟩:ByteArray)] 29 (0,0)) q19_ hb);have n1_:=Aside0.mk (blk_below (g:=gb211) (o:=.cells #[.string x212000_15,.string t219,.string t222] 29 (0,0)) q7_ hb);have n2_:=Aside0.mk (below_step q52_ hb);clear BK206;clear BK211;clear HB;have BK206:=n0_;have BK211:=n1_;have HB:=n2_;clear n0_ n1_ n2_;(try clear hb);have hcz36_0:w35.cell? ⟨gb206,0,none⟩ = some (.string (⟨#[]⟩:ByteArray)):=(blk_cell BK206.out 0).trans rfl;have hcz36_1:w35.cell? ⟨gb206,1,none⟩ = some (.string (⟨#[]⟩:ByteArray)):=(blk_cell BK206.out 1).trans rfl;have hcz36_2:w35.cell? ⟨gb206,2,none⟩ = some (.string (⟨#[]⟩:ByteArray)):=(blk_cell BK206.out 2).trans rfl;have hfz36_0:=blk_frozen BK206.out 0;have hfz36_1:=blk_frozen BK206.out 1;have hfz36_2:=blk_frozen BK206.out 2))
   refine bodyPost_ret (results_ct rfl _ _ gb206 29 #[.string (⟨#[]⟩:ByteArray),.string (⟨#[]⟩:ByteArray),.string (⟨#[]⟩:ByteArray)] (0,0) _ rfl q0_ Tryd.underlying29 rfl (by kernel_rfl)) rfl ?_
   exact ⟨q84_,q52_⟩
end Go.Proofs.YtoiiaklmjpiejaaDoor.QFnLines
