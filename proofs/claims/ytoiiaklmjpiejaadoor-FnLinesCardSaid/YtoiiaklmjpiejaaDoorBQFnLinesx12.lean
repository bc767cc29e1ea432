/- The machine's side of a law,written by a program of this session for this claim. -/
import Derived.Test.YtoiiaklmjpiejaaDoorBQq
import Derived.Test.YtoiiaklmjpiejaaDoorBQFnLinesx0
import Derived.Test.YtoiiaklmjpiejaaDoorBQFnLinesx8
import Derived.Test.YtoiiaklmjpiejaaDoorBQFnLinesx9
import Derived.Test.YtoiiaklmjpiejaaDoorBQFnLinesx10
import Derived.Test.YtoiiaklmjpiejaaDoorBQFnLinesx11
namespace Go.Proofs.YtoiiaklmjpiejaaDoor.QFnLines
open Go.Proofs.YtoiiaklmjpiejaaDoor.Qq
open Go.RowKit Go.Proofs.YtoiiaklmjpiejaaDoor.LibX Go.Proofs.YtoiiaklmjpiejaaDoor.LibE Go.Proofs.YtoiiaklmjpiejaaDoor.LibCB Go.Proofs.YtoiiaklmjpiejaaDoor.LibT Go.Proofs.YtoiiaklmjpiejaaDoorW.PrintWords Go.Proofs.YtoiiaklmjpiejaaDoorW.PrintLast Go.Proofs.YtoiiaklmjpiejaaDoorW.PrintMore
attribute [local go_sem] max2_int min2_int max_two min_two max_three min_three max_four min_four   -- for this text's walks alone
set_option maxHeartbeats 8000000
set_option maxRecDepth 100000
set_option linter.unusedVariables false
set_option linter.unusedSimpArgs false
mutual
def spec_ReadLine.j0:Nat → ByteArray → ByteArray → ByteArray → Bool → ByteArray → ByteArray → ByteArray → Option (ByteArray × ByteArray × ByteArray × Bool)
 | 0,_,_,_,_,_,_,_ => none
 | k + 1,x0,x5,x6,x35,x260000,x260001,x260002 => if x35 = true then ((spec_l7Trim.f k x5).bind fun t265 => ((spec_l7Trim.f k x6).bind fun t266 => (spec_ReadLine.j1 k t266 t265 x260001 x260002))) else (spec_ReadLine.j1 k x0 x260000 x260001 x260002)
def spec_ReadLine.j1:Nat → ByteArray → ByteArray → ByteArray → ByteArray → Option (ByteArray × ByteArray × ByteArray × Bool)
 | 0,_,_,_,_ => none
 | k + 1,x0,x260000,x260001,x260002 => (spec_l1Cut.f k x0 32).bind fun bt267 => ((spec_l7Slim.f k bt267.2.1).bind fun t270 => ((spec_LineOk.f k x260000 bt267.1 t270).bind fun t271 => (if t271 = true then (some (x260000,bt267.1,t270,true)) else (some ((⟨#[]⟩:ByteArray),(⟨#[]⟩:ByteArray),(⟨#[]⟩:ByteArray),false)))))
end
def spec_ReadLine.f (k:Nat) (a0:ByteArray):Option (ByteArray × ByteArray × ByteArray × Bool):=if (a0.size:Int) > 240 then (some ((⟨#[]⟩:ByteArray),(⟨#[]⟩:ByteArray),(⟨#[]⟩:ByteArray),false)) else ((spec_l1Cut.f k a0 59).bind fun bt255 => ((spec_l7Trim.f k bt255.1).bind fun t258 => ((spec_l1Cut.f k t258 58).bind fun bt260 => (if bt260.2.2 = true then ((spec_l7Trim.f k bt260.1).bind fun t263 => ((spec_NameOk.f k t263).bind fun t264 => (spec_ReadLine.j0 k t258 bt260.1 bt260.2.1 t264 (⟨#[]⟩:ByteArray) (⟨#[]⟩:ByteArray) (⟨#[]⟩:ByteArray)))) else (spec_ReadLine.j0 k t258 bt260.1 bt260.2.1 false (⟨#[]⟩:ByteArray) (⟨#[]⟩:ByteArray) (⟨#[]⟩:ByteArray))))))
theorem spec_ReadLine.calls (k:Nat) (a0:ByteArray) (r1:ByteArray) (r2:ByteArray) (r3:ByteArray) (r4:Bool) (w:World) (h:spec_ReadLine.f k a0 = some (r1,r2,r3,r4)) :
  Calls Tryd.prog 18 #[.string a0] w fun e w' => e = .returned (.tuple #[.agg #[.string r1,.string r2,.string r3],.bool r4]) ∧ Below w.heap.size w w':=by
 have hu29:=Tryd.underlying29
 have HB:=Aside0.mk (Below.refl w.heap.size w)
 have H:=h;unfold spec_ReadLine.f at H
 clear h
 by_cases c2:(a0.size:Int) > 240
 ·rw [if_pos c2] at H
  have c2b0:decide (240 < (a0.size:Int)) = true:=decide_eq_true c2
  have c2b1:decide (240 < a0.size) = true:=decide_eq_true (by omega)
  clear c2
  simp only [Option.some.injEq,Prod.mk.injEq] at H
  obtain ⟨rfl,rfl,rfl,rfl⟩:=H
  go_enter Tryd.func18,Tryd.ntmps18
  go_wp2_with (first | ((with_reducible refine gate_dst (N:=2) rfl ?_);refine box_event ?hg (N:=2) ?hd (cs:=#[.string (⟨#[]⟩:ByteArray),.string (⟨#[]⟩:ByteArray),.string (⟨#[]⟩:ByteArray)]) (t:=29) ?hr ?_;(case hd => rfl);(case hg => rfl);(case hr => exact q130_);intro gb254 hg w3 hbox hb;have n0_:=Aside0.mk (below_step q83_ hb);have n1_:=Aside0.mk (hbox);have n2_:=Aside0.mk ((q64_:w.heap.size ≤ gb254));have n3_:=Aside0.mk ((q64_:w.heap.size ≤ gb254));clear HB;have HB:=n0_;have BK254:=n1_;have GW254:=n2_;have GE254:=n3_;clear n0_ n1_ n2_ n3_;clear hb hbox hg;have hcz4_0:w3.cell? ⟨gb254,0,none⟩ = some (.string (⟨#[]⟩:ByteArray)):=(blk_cell BK254.out 0).trans rfl;have hcz4_1:w3.cell? ⟨gb254,1,none⟩ = some (.string (⟨#[]⟩:ByteArray)):=(blk_cell BK254.out 1).trans rfl;have hcz4_2:w3.cell? ⟨gb254,2,none⟩ = some (.string (⟨#[]⟩:ByteArray)):=(blk_cell BK254.out 2).trans rfl;have hfz4_0:=blk_frozen BK254.out 0;have hfz4_1:=blk_frozen BK254.out 1;have hfz4_2:=blk_frozen BK254.out 2))
  refine bodyPost_ret (results_ct rfl _ _ gb254 29 #[.string (⟨#[]⟩:ByteArray),.string (⟨#[]⟩:ByteArray),.string (⟨#[]⟩:ByteArray)] (0,0) _ rfl q2_ Tryd.underlying29 rfl (by kernel_rfl)) rfl ?_
  exact ⟨q84_,q73_⟩
 rw [if_neg c2] at H
 have c2b0:decide (240 < (a0.size:Int)) = false:=decide_eq_false c2
 have c2b1:decide (240 < a0.size) = false:=decide_eq_false (by omega)
 clear c2
 replace H:=Option.bind_eq_some_iff.mp H
 obtain ⟨⟨t255,t256,t257⟩,A50,H⟩:=H
 try dsimp -simprocs -eta only at H
 have A5:=Aside0.mk A50
 clear A50
 replace H:=Option.bind_eq_some_iff.mp H
 obtain ⟨t258,A60,H⟩:=H
 have A6:=Aside0.mk A60
 clear A60
 replace H:=Option.bind_eq_some_iff.mp H
 obtain ⟨⟨t260,t261,t262⟩,A70,H⟩:=H
 try dsimp -simprocs -eta only at H
 have A7:=Aside0.mk A70
 clear A70
 have HC8:=Aside0.mk H
 clear H
 go_enter Tryd.func18,Tryd.ntmps18
 go_upto_region 7 with (first | ((with_reducible refine gate_dst (N:=2) rfl ?_);refine box_event ?hg (N:=2) ?hd (cs:=#[.string (⟨#[]⟩:ByteArray),.string (⟨#[]⟩:ByteArray),.string (⟨#[]⟩:ByteArray)]) (t:=29) ?hr ?_;(case hd => rfl);(case hg => rfl);(case hr => exact q130_);intro gb254 hg w9 hbox hb;have n0_:=Aside0.mk (below_step q83_ hb);have n1_:=Aside0.mk (hbox);have n2_:=Aside0.mk ((q64_:w.heap.size ≤ gb254));have n3_:=Aside0.mk ((q64_:w.heap.size ≤ gb254));clear HB;have HB:=n0_;have BK254:=n1_;have GW254:=n2_;have GE254:=n3_;clear n0_ n1_ n2_ n3_;clear hb hbox hg) | ((with_reducible refine gate_callee (f:=34) rfl ?_);refine goesL_ (some 17) rfl rfl Tryd.func34 (by kernel_rfl) rfl #[.string a0,.int .u8 59] rfl q82_ ?_;(with_reducible refine (spec_l1Cut.calls k a0 59 t255 t256 t257 _ A5.out).mono ?_);rintro e w' ⟨rfl,⟨nd,rfl⟩⟩;refine ⟨_,rfl,?_⟩;(try (rw [drewN_self w9];generalize hq_:World.drewN w9 _ = w9;have n0_:Aside0 (w9.heap[gb254]? = some (.cells #[.string (⟨#[]⟩:ByteArray),.string (⟨#[]⟩:ByteArray),.string (⟨#[]⟩:ByteArray)] 29 (0,0))):=⟨q80_⟩;have n1_:Aside0 (Below w.heap.size w w9):=⟨q58_⟩;clear BK254 HB hq_;have BK254:=n0_;have HB:=n1_;clear n0_ n1_))) | ((with_reducible refine gate_callee (f:=45) rfl ?_);refine goesL_ (some 22) rfl rfl Tryd.func45 (by kernel_rfl) rfl #[.string t255] rfl q82_ ?_;(with_reducible refine (spec_l7Trim.calls k t255 t258 _ A6.out).mono ?_);rintro e w' ⟨rfl,⟨nd,rfl⟩⟩;refine ⟨_,rfl,?_⟩;(try (rw [drewN_self w9];generalize hq_:World.drewN w9 _ = w9;have n0_:Aside0 (w9.heap[gb254]? = some (.cells #[.string (⟨#[]⟩:ByteArray),.string (⟨#[]⟩:ByteArray),.string (⟨#[]⟩:ByteArray)] 29 (0,0))):=⟨q80_⟩;have n1_:Aside0 (Below w.heap.size w w9):=⟨q58_⟩;clear BK254 HB hq_;have BK254:=n0_;have HB:=n1_;clear n0_ n1_))) | ((with_reducible refine gate_dst (N:=4) rfl ?_);refine box_event ?hg (N:=4) ?hd (cs:=#[.string (⟨#[]⟩:ByteArray),.string (⟨#[]⟩:ByteArray),.string (⟨#[]⟩:ByteArray)]) (t:=29) ?hr ?_;(case hd => rfl);(case hg => rfl);(case hr => exact q130_);intro gb259 hg w10 hbox hb;have n0_:=Aside0.mk (blk_below (g:=gb254) (o:=.cells #[.string (⟨#[]⟩:ByteArray),.string (⟨#[]⟩:ByteArray),.string (⟨#[]⟩:ByteArray)] 29 (0,0)) q95_ hb);have n1_:=Aside0.mk (below_step q73_ hb);have n2_:=Aside0.mk (hbox);have n3_:=Aside0.mk ((q50_:w.heap.size ≤ gb259));have n4_:=Aside0.mk ((q50_:w.heap.size ≤ gb259));have n5_:=Aside0.mk ((by rw [hg];exact Nat.ne_of_lt (blk_lt (g:=gb254) (o:=.cells #[.string (⟨#[]⟩:ByteArray),.string (⟨#[]⟩:ByteArray),.string (⟨#[]⟩:ByteArray)] 29 (0,0)) q95_):gb254 ≠ gb259));have n6_:=Aside0.mk ((by rw [hg];exact Nat.ne_of_gt (blk_lt (g:=gb254) (o:=.cells #[.string (⟨#[]⟩:ByteArray),.string (⟨#[]⟩:ByteArray),.string (⟨#[]⟩:ByteArray)] 29 (0,0)) q95_):gb259 ≠ gb254));clear BK254;clear HB;have BK254:=n0_;have HB:=n1_;have BK259:=n2_;have GW259:=n3_;have GE259:=n4_;have NB254_259:=n5_;have NB259_254:=n6_;clear n0_ n1_ n2_ n3_ n4_ n5_ n6_;clear hb hbox hg;have hnb11:=NB259_254.out;have hnc11:=NB254_259.out;have hcz12_0:w10.cell? ⟨gb259,0,none⟩ = some (.string (⟨#[]⟩:ByteArray)):=(blk_cell BK259.out 0).trans rfl;have hcz12_1:w10.cell? ⟨gb259,1,none⟩ = some (.string (⟨#[]⟩:ByteArray)):=(blk_cell BK259.out 1).trans rfl;have hcz12_2:w10.cell? ⟨gb259,2,none⟩ = some (.string (⟨#[]⟩:ByteArray)):=(blk_cell BK259.out 2).trans rfl;have hfz12_0:=blk_frozen BK259.out 0;have hfz12_1:=blk_frozen BK259.out 1;have hfz12_2:=blk_frozen BK259.out 2) | ((with_reducible refine gate_callee (f:=34) rfl ?_);refine goesL_ (some 26) rfl rfl Tryd.func34 (by kernel_rfl) rfl #[.string t258,.int .u8 58] rfl q82_ ?_;(with_reducible refine (spec_l1Cut.calls k t258 58 t260 t261 t262 _ A7.out).mono ?_);rintro e w' ⟨rfl,⟨nd,rfl⟩⟩;refine ⟨_,rfl,?_⟩))
 (try simp only [Act.put,List.setIfInBounds_toArray,List.set_cons_zero,List.set_cons_succ])
 go_cut [35] (fun v35 wc => ∃ (kq:Nat) (x35_7:Bool),v35 = .bool x35_7 ∧ Aside0 (spec_ReadLine.j0 kq t258 t260 t261 x35_7 (⟨#[]⟩:ByteArray) (⟨#[]⟩:ByteArray) (⟨#[]⟩:ByteArray) = some (r1,r2,r3,r4)) ∧ Aside0 (kq ≤ k) ∧ Aside0 (wc.heap[gb254]? = some (.cells #[.string (⟨#[]⟩:ByteArray),.string (⟨#[]⟩:ByteArray),.string (⟨#[]⟩:ByteArray)] 29 (0,0))) ∧ Aside0 (wc.heap[gb259]? = some (.cells #[.string (⟨#[]⟩:ByteArray),.string (⟨#[]⟩:ByteArray),.string (⟨#[]⟩:ByteArray)] 29 (0,0))) ∧ Aside0 (Below w.heap.size w wc))
 case first =>
  have H:=HC8.out
  clear HC8
  by_cases c13:t262 = true
  ·subst c13
   rewrite [if_pos rfl] at H
   replace H:=Option.bind_eq_some_iff.mp H
   obtain ⟨t263,A140,H⟩:=H
   have A14:=Aside0.mk A140
   clear A140
   replace H:=Option.bind_eq_some_iff.mp H
   obtain ⟨t264,A150,H⟩:=H
   have A15:=Aside0.mk A150
   clear A150
   have H':=Aside0.mk H
   clear H
   go_wp2_with (first | (go_at_call 45;(with_reducible refine (spec_l7Trim.calls k t260 t263 _ A14.out).mono ?_);rintro e w' ⟨rfl,⟨nd,rfl⟩⟩) | (go_at_call 40;(with_reducible refine (spec_NameOk.calls k t263 t264 _ A15.out).mono ?_);rintro e w' ⟨rfl,⟨nd,rfl⟩⟩))
   go_meet
   case rel => exact ⟨_,(t264),q101_,H',⟨q115_⟩,⟨q10_⟩,⟨q3_⟩,⟨q53_⟩⟩
  replace c13:=Bool.eq_false_iff.mpr c13
  subst c13
  rewrite [if_neg (show ¬ (false = true) by decide)] at H
  have H':=Aside0.mk H
  clear H
  go_wp2
  go_meet
  case rel => exact ⟨_,(false),q101_,H',⟨q115_⟩,⟨q10_⟩,⟨q3_⟩,⟨q53_⟩⟩
 clear HC8
 try clear c1
 try clear c2
 try clear c2b0
 try clear c2b1
 try clear p2
 try clear c3
 try clear c4
 try clear p6
 try clear c11
 try clear c13
 try clear hcz12_0 hcz12_1 hcz12_2
 try clear hcz4_0 hcz4_1 hcz4_2
 try clear hfz12_0 hfz12_1 hfz12_2
 try clear hfz4_0 hfz4_1 hfz4_2
 obtain ⟨kq,x35_7,rfl,HA,HJ7,BK254,BK259,HB⟩:=hcut
 cases kq with
 | zero => exact absurd HA.out (by simp [spec_ReadLine.j0])
 | succ kj7 =>
  have H:=HA.out
  clear HA
  simp only [spec_ReadLine.j0] at H
  have HC16:=Aside0.mk H
  clear H
  go_upto_if 35 with (fail)
  go_cut [0] (fun v0 wc => ∃ (kq:Nat) (x0_15:ByteArray) (x260000_15:ByteArray),v0 = .string x0_15 ∧ Aside0 (spec_ReadLine.j1 kq x0_15 x260000_15 (⟨#[]⟩:ByteArray) (⟨#[]⟩:ByteArray) = some (r1,r2,r3,r4)) ∧ Aside0 (kq ≤ kj7) ∧ Aside0 (wc.heap[gb254]? = some (.cells #[.string (⟨#[]⟩:ByteArray),.string (⟨#[]⟩:ByteArray),.string (⟨#[]⟩:ByteArray)] 29 (0,0))) ∧ Aside0 (wc.heap[gb259]? = some (.cells #[.string x260000_15,.string (⟨#[]⟩:ByteArray),.string (⟨#[]⟩:ByteArray)] 29 (0,0))) ∧ Aside0 (Below w.heap.size w wc))
  case first =>
   have H:=HC16.out
   clear HC16
   by_cases c17:x35_7 = true
   ·subst c17
    rewrite [if_pos rfl] at H
    replace H:=Option.bind_eq_some_iff.mp H
    obtain ⟨t265,A180,H⟩:=H
    have A18:=Aside0.mk A180
    clear A180
    replace H:=Option.bind_eq_some_iff.mp H
    obtain ⟨t266,A190,H⟩:=H
    have A19:=Aside0.mk A190
    clear A190
    have H':=Aside0.mk H
    clear H
    go_wp2_with (first | ((with_reducible refine gate_callee (f:=45) rfl ?_);refine goesL_ (some 37) rfl rfl Tryd.func45 (by kernel_rfl) rfl #[.string t260] rfl q82_ ?_;(with_reducible refine (spec_l7Trim.calls kj7 t260 t265 _ A18.out).mono ?_);rintro e w' ⟨rfl,⟨nd,rfl⟩⟩;refine ⟨_,rfl,?_⟩;(try (rw [drewN_self wc];generalize hq_:World.drewN wc _ = wc;have n0_:Aside0 (wc.heap[gb254]? = some (.cells #[.string (⟨#[]⟩:ByteArray),.string (⟨#[]⟩:ByteArray),.string (⟨#[]⟩:ByteArray)] 29 (0,0))):=⟨q80_⟩;have n1_:Aside0 (wc.heap[gb259]? = some (.cells #[.string (⟨#[]⟩:ByteArray),.string (⟨#[]⟩:ByteArray),.string (⟨#[]⟩:ByteArray)] 29 (0,0))):=⟨q81_⟩;have n2_:Aside0 (Below w.heap.size w wc):=⟨q46_⟩;clear BK254 BK259 HB hq_;have BK254:=n0_;have BK259:=n1_;have HB:=n2_;clear n0_ n1_ n2_));have hnb20:=NB259_254.out;have hnc20:=NB254_259.out;have hcz21_0:wc.cell? ⟨gb259,0,none⟩ = some (.string (⟨#[]⟩:ByteArray)):=(blk_cell BK259.out 0).trans rfl;have hcz21_1:wc.cell? ⟨gb259,1,none⟩ = some (.string (⟨#[]⟩:ByteArray)):=(blk_cell BK259.out 1).trans rfl;have hcz21_2:wc.cell? ⟨gb259,2,none⟩ = some (.string (⟨#[]⟩:ByteArray)):=(blk_cell BK259.out 2).trans rfl;have hfz21_0:=blk_frozen BK259.out 0;have hfz21_1:=blk_frozen BK259.out 1;have hfz21_2:=blk_frozen BK259.out 2) | ((with_reducible refine gate_callee (f:=45) rfl ?_);refine goesL_ (some 40) rfl rfl Tryd.func45 (by kernel_rfl) rfl #[.string t261] rfl q82_ ?_;(with_reducible refine (spec_l7Trim.calls kj7 t261 t266 _ A19.out).mono ?_);rintro e w' ⟨rfl,⟨nd,rfl⟩⟩;refine ⟨_,rfl,?_⟩))
    go_meet
    case rel => exact ⟨_,(t266),(t265),q101_,H',⟨q109_⟩,⟨by (with_reducible repeat (first | refine blk_drewN ?_ _ | refine blk_drew ?_ | refine blk_alloc ?_ _));refine blk_far ?_ NB254_259.out _;(with_reducible repeat (first | refine blk_drewN ?_ _ | refine blk_drew ?_ | refine blk_alloc ?_ _));exact BK254.out⟩,⟨by (with_reducible repeat (first | refine blk_drewN ?_ _ | refine blk_drew ?_ | refine blk_alloc ?_ _));refine blk_put (cs:=#[.string (⟨#[]⟩:ByteArray),.string (⟨#[]⟩:ByteArray),.string (⟨#[]⟩:ByteArray)]) ?_ 0 _ rfl;(with_reducible repeat (first | refine blk_drewN ?_ _ | refine blk_drew ?_ | refine blk_alloc ?_ _));exact BK259.out⟩,⟨q53_⟩⟩
   replace c17:=Bool.eq_false_iff.mpr c17
   subst c17
   rewrite [if_neg (show ¬ (false = true) by decide)] at H
   have H':=Aside0.mk H
   clear H
   go_wp2
   go_meet
   case rel => exact ⟨_,(t258),((⟨#[]⟩:ByteArray)),q101_,H',⟨q109_⟩,⟨q95_⟩,⟨by (with_reducible repeat (first | refine blk_drewN ?_ _ | refine blk_drew ?_ | refine blk_alloc ?_ _));exact BK259.out⟩,⟨q53_⟩⟩
  clear HC16
  try clear c1
  try clear c2
  try clear c2b0
  try clear c2b1
  try clear p2 p2
  try clear c3
  try clear c4
  try clear p6 p6
  try clear c11
  try clear c13
  try clear c17
  try clear c18
  try clear c20
  try clear hcz12_0 hcz12_1 hcz12_2
  try clear hcz21_0 hcz21_1 hcz21_2
  try clear hcz4_0 hcz4_1 hcz4_2
  try clear hfz12_0 hfz12_1 hfz12_2
  try clear hfz21_0 hfz21_1 hfz21_2
  try clear hfz4_0 hfz4_1 hfz4_2
  obtain ⟨kq,x0_15,x260000_15,rfl,HA,HJ15,BK254,BK259,HB⟩:=hcut
  cases kq with
  | zero => exact absurd HA.out (by simp [spec_ReadLine.j1])
  | succ kj15 =>
   have H:=HA.out
   clear HA
   simp only [spec_ReadLine.j1] at H
   replace H:=Option.bind_eq_some_iff.mp H
   obtain ⟨⟨t267,t268,t269⟩,A220,H⟩:=H
   try dsimp -simprocs -eta only at H
   have A22:=Aside0.mk A220
   clear A220
   replace H:=Option.bind_eq_some_iff.mp H
   obtain ⟨t270,A230,H⟩:=H
   have A23:=Aside0.mk A230
   clear A230
   replace H:=Option.bind_eq_some_iff.mp H
   obtain ⟨t271,A240,H⟩:=H
   have A24:=Aside0.mk A240
   clear A240
   by_cases c25:t271 = true
   ·subst c25
    rewrite [if_pos rfl] at H
    simp only [Option.some.injEq,Prod.mk.injEq] at H
    obtain ⟨rfl,rfl,rfl,rfl⟩:=H
    go_wp2_with (first | ((with_reducible refine gate_callee (f:=34) rfl ?_);refine goesL_ (some 43) rfl rfl Tryd.func34 (by kernel_rfl) rfl #[.string x0_15,.int .u8 32] rfl q82_ ?_;(with_reducible refine (spec_l1Cut.calls kj15 x0_15 32 t267 t268 t269 _ A22.out).mono ?_);rintro e w' ⟨rfl,⟨nd,rfl⟩⟩;refine ⟨_,rfl,?_⟩;(try (rw [drewN_self wc];generalize hq_:World.drewN wc _ = wc;have n0_:Aside0 (wc.heap[gb254]? = some (.cells #[.string (⟨#[]⟩:ByteArray),.string (⟨#[]⟩:ByteArray),.string (⟨#[]⟩:ByteArray)] 29 (0,0))):=⟨q80_⟩;have n1_:Aside0 (wc.heap[gb259]? = some (.cells #[.string x260000_15,.string (⟨#[]⟩:ByteArray),.string (⟨#[]⟩:ByteArray)] 29 (0,0))):=⟨q81_⟩;have n2_:Aside0 (Below w.heap.size w wc):=⟨q46_⟩;clear BK254 BK259 HB hq_;have BK254:=n0_;have BK259:=n1_;have HB:=n2_;clear n0_ n1_ n2_));have hnb26:=NB259_254.out;have hnc26:=NB254_259.out;have hcz27_0:wc.cell? ⟨gb259,0,none⟩ = some (.string x260000_15):=(blk_cell BK259.out 0).trans rfl;have hcz27_1:wc.cell? ⟨gb259,1,none⟩ = some (.string (⟨#[]⟩:ByteArray)):=(blk_cell BK259.out 1).trans rfl;have hcz27_2:wc.cell? ⟨gb259,2,none⟩ = some (.string (⟨#[]⟩:ByteArray)):=(blk_cell BK259.out 2).trans rfl;have hfz27_0:=blk_frozen BK259.out 0;have hfz27_1:=blk_frozen BK259.out 1;have hfz27_2:=blk_frozen BK259.out 2) | ((with_reducible refine gate_callee (f:=46) rfl ?_);refine goesL_ (some 50) rfl rfl Tryd.func46 (by kernel_rfl) rfl #[.string t268] rfl q82_ ?_;(with_reducible refine (spec_l7Slim.calls kj15 t268 t270 _ A23.out).mono ?_);rintro e w' ⟨rfl,⟨nd,rfl⟩⟩;refine ⟨_,rfl,?_⟩) | ((with_reducible refine gate_callee (f:=15) rfl ?_);refine goesL_ (some 53) rfl rfl Tryd.func15 (by kernel_rfl) rfl #[.agg #[.string x260000_15,.string t267,.string t270]] rfl q82_ ?_;(with_reducible refine (spec_LineOk.calls kj15 x260000_15 t267 t270 true _ A24.out).mono ?_);rintro e w28 ⟨rfl,hb⟩;refine ⟨_,rfl,?_⟩;have n0_:=Aside0.mk (blk_below (g:=gb254) (o:=.cells #[.string (⟨#[]⟩:ByteArray),.string (⟨#[]⟩:ByteArray),.string (⟨#[]⟩:ByteArray)] 29 (0,0)) q20_ hb);have n1_:=Aside0.mk (blk_below (g:=gb259) (o:=.cells #[.string x260000_15,.string t267,.string t270] 29 (0,0)) q8_ hb);have n2_:=Aside0.mk (below_step q53_ hb);clear BK254;clear BK259;clear HB;have BK254:=n0_;have BK259:=n1_;have HB:=n2_;clear n0_ n1_ n2_;(try clear hb);have hcz29_0:w28.cell? ⟨gb259,0,none⟩ = some (.string x260000_15):=(blk_cell BK259.out 0).trans rfl;have hcz29_1:w28.cell? ⟨gb259,1,none⟩ = some (.string t267):=(blk_cell BK259.out 1).trans rfl;have hcz29_2:w28.cell? ⟨gb259,2,none⟩ = some (.string t270):=(blk_cell BK259.out 2).trans rfl;have hfz29_0:=blk_frozen BK259.out 0;have hfz29_1:=blk_frozen BK259.out 1;have hfz29_2:=blk_frozen BK259.out 2;have hcz30_0:w28.cell? ⟨gb254,0,none⟩ = some (.string (⟨#[]⟩:ByteArray)):=(blk_cell BK254.out 0).trans rfl;have hcz30_1:w28.cell? ⟨gb254,1,none⟩ = some (.string (⟨#[]⟩:ByteArray)):=(blk_cell BK254.out 1).trans rfl;have hcz30_2:w28.cell? ⟨gb254,2,none⟩ = some (.string (⟨#[]⟩:ByteArray)):=(blk_cell BK254.out 2).trans rfl;have hfz30_0:=blk_frozen BK254.out 0;have hfz30_1:=blk_frozen BK254.out 1;have hfz30_2:=blk_frozen BK254.out 2))
    refine bodyPost_ret (results_ct rfl _ _ gb254 29 #[.string x260000_15,.string t267,.string t270] (0,0) _ rfl (by (with_reducible repeat (first | refine blk_drewN ?_ _ | refine blk_drew ?_ | refine blk_alloc ?_ _));refine blk_put (cs:=#[.string x260000_15,.string t267,.string (⟨#[]⟩:ByteArray)]) ?_ 2 _ rfl;(with_reducible repeat (first | refine blk_drewN ?_ _ | refine blk_drew ?_ | refine blk_alloc ?_ _));refine blk_put (cs:=#[.string x260000_15,.string (⟨#[]⟩:ByteArray),.string (⟨#[]⟩:ByteArray)]) ?_ 1 _ rfl;(with_reducible repeat (first | refine blk_drewN ?_ _ | refine blk_drew ?_ | refine blk_alloc ?_ _));refine blk_put (cs:=#[.string (⟨#[]⟩:ByteArray),.string (⟨#[]⟩:ByteArray),.string (⟨#[]⟩:ByteArray)]) ?_ 0 _ rfl;(with_reducible repeat (first | refine blk_drewN ?_ _ | refine blk_drew ?_ | refine blk_alloc ?_ _));exact BK254.out) Tryd.underlying29 rfl (by kernel_rfl)) rfl ?_
    exact ⟨q84_,q53_⟩
   replace c25:=Bool.eq_false_iff.mpr c25
   subst c25
   rewrite [if_neg (show ¬ (false = true) by decide)] at H
   simp only [Option.some.injEq,Prod.mk.injEq] at H
   obtain ⟨rfl,rfl,rfl,rfl⟩:=H
   go_wp2_with (first | ((with_reducible refine gate_callee (f:=34) rfl ?_);refine goesL_ (some 43) rfl rfl Tryd.func34 (by kernel_rfl) rfl #[.string x0_15,.int .u8 32] rfl q82_ ?_;(with_reducible refine (spec_l1Cut.calls kj15 x0_15 32 t267 t268 t269 _ A22.out).mono ?_);rintro e w' ⟨rfl,⟨nd,rfl⟩⟩;refine ⟨_,rfl,?_⟩;(try (rw [drewN_self wc];generalize hq_:World.drewN wc _ = wc;have n0_:Aside0 (wc.heap[gb254]? = some (.cells #[.string (⟨#[]⟩:ByteArray),.string (⟨#[]⟩:ByteArray),.string (⟨#[]⟩:ByteArray)] 29 (0,0))):=⟨q80_⟩;have n1_:Aside0 (wc.heap[gb259]? = some (.cells #[.string x260000_15,.string (⟨#[]⟩:ByteArray),.string (⟨#[]⟩:ByteArray)] 29 (0,0))):=⟨q81_⟩;have n2_:Aside0 (Below w.heap.size w wc):=⟨q46_⟩;clear BK254 BK259 HB hq_;have BK254:=n0_;have BK259:=n1_;have HB:=n2_;clear n0_ n1_ n2_));have hnb31:=NB259_254.out;have hnc31:=NB254_259.out;have hcz32_0:wc.cell? ⟨gb259,0,none⟩ = some (.string x260000_15):=(blk_cell BK259.out 0).trans rfl;have hcz32_1:wc.cell? ⟨gb259,1,none⟩ = some (.string (⟨#[]⟩:ByteArray)):=(blk_cell BK259.out 1).trans rfl;have hcz32_2:wc.cell? ⟨gb259,2,none⟩ = some (.string (⟨#[]⟩:ByteArray)):=(blk_cell BK259.out 2).trans rfl;have hfz32_0:=blk_frozen BK259.out 0;have hfz32_1:=blk_frozen BK259.out 1;have hfz32_2:=blk_frozen BK259.out 2) | ((with_reducible refine gate_callee (f:=46) rfl ?_);refine goesL_ (some 50) rfl rfl Tryd.func46 (by kernel_rfl) rfl #[.string t268] rfl q82_ ?_;(with_reducible refine (spec_l7Slim.calls kj15 t268 t270 _ A23.out).mono ?_);rintro e w' ⟨rfl,⟨nd,rfl⟩⟩;refine ⟨_,rfl,?_⟩) | ((with_reducible refine gate_callee (f:=15) rfl ?_);refine goesL_ (some 53) rfl rfl Tryd.func15 (by kernel_rfl) rfl #[.agg #[.string x260000_15,.string t267,.string t270]] rfl q82_ ?_;(with_reducible refine (spec_LineOk.calls kj15 x260000_15 t267 t270 false _ A24.out).mono ?_);rintro e w33 ⟨rfl,hb⟩;refine ⟨_,rfl,?_⟩;have n0_:=Aside0.mk (blk_below (g:=gb254) (o:=.cells #[.string (⟨#[]⟩:ByteArray),.string (⟨#[]⟩:ByteArray),.string (⟨#[]⟩:ByteArray)] 29 (0,0)) q20_ hb);have n1_:=Aside0.mk (blk_below (g:=gb259) (o:=.cells #[.string x260000_15,.string t267,.string t270] 29 (0,0)) q8_ hb);have n2_:=Aside0.mk (below_step q53_ hb);clear BK254;clear BK259;clear HB;have BK254:=n0_;have BK259:=n1_;have HB:=n2_;clear n0_ n1_ n2_;(try clear hb);have hcz34_0:w33.cell? ⟨gb254,0,none⟩ = some (.string (⟨#[]⟩:ByteArray)):=(blk_cell BK254.out 0).trans rfl;have hcz34_1:w33.cell? ⟨gb254,1,none⟩ = some (.string (⟨#[]⟩:ByteArray)):=(blk_cell BK254.out 1).trans rfl;have hcz34_2:w33.cell? ⟨gb254,2,none⟩ = some (.string (⟨#[]⟩:ByteArray)):=(blk_cell BK254.out 2).trans rfl;have hfz34_0:=blk_frozen BK254.out 0;have hfz34_1:=blk_frozen BK254.out 1;have hfz34_2:=blk_frozen BK254.out 2))
   refine bodyPost_ret (results_ct rfl _ _ gb254 29 #[.string (⟨#[]⟩:ByteArray),.string (⟨#[]⟩:ByteArray),.string (⟨#[]⟩:ByteArray)] (0,0) _ rfl q2_ Tryd.underlying29 rfl (by kernel_rfl)) rfl ?_
   exact ⟨q84_,q53_⟩
end Go.Proofs.YtoiiaklmjpiejaaDoor.QFnLines
