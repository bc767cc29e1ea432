/- The machine's side of a law,written by a program of this session for this claim. -/
import Derived.Test.YtoiiaklmjpiejaaDoorAQq
import Derived.Test.YtoiiaklmjpiejaaDoorAQFnArgsx0
namespace Go.Proofs.YtoiiaklmjpiejaaDoor.QFnArgs
open Go.Proofs.YtoiiaklmjpiejaaDoor.Qq
open Go.RowKit Go.Proofs.YtoiiaklmjpiejaaDoor.LibX Go.Proofs.YtoiiaklmjpiejaaDoor.LibE Go.Proofs.YtoiiaklmjpiejaaDoor.LibCB Go.Proofs.YtoiiaklmjpiejaaDoor.LibT Go.Proofs.YtoiiaklmjpiejaaDoorW.PrintWords Go.Proofs.YtoiiaklmjpiejaaDoorW.PrintLast Go.Proofs.YtoiiaklmjpiejaaDoorW.PrintMore
attribute [local go_sem] max2_int min2_int max_two min_two max_three min_three max_four min_four   -- for this text's walks alone
set_option maxHeartbeats 8000000
set_option maxRecDepth 100000
set_option linter.unusedVariables false
set_option linter.unusedSimpArgs false
def laws_big.f (l0:List Int):Option (Bool):=some (decide ((l0.length:Int) > 1048576))
theorem laws_big.calls (A0:Option Addr) (c0:Nat) (l0:List Int) (r:Bool) (w:World) (hr0:Kd.C (Kd.int .u8) w A0 l0.length l0) (hc0:l0.length ≤ c0) (h:laws_big.f l0 = some r) :
  Calls Tryd.prog 6 #[.slice A0 l0.length c0] w fun e w' => e = .returned (.bool r) ∧ Drawn0 w w':=by
 have HR0:=Aside0.mk hr0
 have HC0:=Aside0.mk hc0
 clear hr0 hc0
 have H:(some (decide ((l0.length:Int) > 1048576))) = some r:=h
 clear h
 obtain rfl:=Option.some.inj H
 go_enter Tryd.func6,Tryd.ntmps6
 go_wp2
 go_ret
 exact ⟨q12_,q16_⟩
/-- A state of type 62 at block g of W;what its slices lead to came in by w0. -/
def IsS62 (w0 W:World) (g:Nat) (f0:List Int) (f1:Int):Prop:=∃ A0 c0,W.heap[g]? = some (.cells #[.slice A0 f0.length c0,.int .i64 f1] 62 (0,0)) ∧ w0.heap.size ≤ g ∧ Kd.C (Kd.int .u8) w0 A0 f0.length f0
theorem IsS62.grown {w0 W:World} {g:Nat} {f0:List Int} {f1:Int} {W1:World} {row:Option Nat} (h:IsS62 w0 W g f0 f1) (hw:W.grownBy W1 row) (hne:some g ≠ row):IsS62 w0 W1 g f0 f1:=by
 obtain ⟨A0,c0,hb,hg,hr0⟩:=h
 exact ⟨A0,c0,blk_grown hb hw hne,hg,hr0⟩
theorem IsS62.below {w0 W:World} {g:Nat} {f0:List Int} {f1:Int} {W1:World} (h:IsS62 w0 W g f0 f1) (hw:Below W.heap.size W W1):IsS62 w0 W1 g f0 f1:=h.grown (grown_of_below hw none) (by simp)
theorem IsS62.drewN {w0 W:World} {g:Nat} {f0:List Int} {f1:Int} (h:IsS62 w0 W g f0 f1) (m:Nat):IsS62 w0 (W.drewN m) g f0 f1:=h
theorem IsS62.drew {w0 W:World} {g:Nat} {f0:List Int} {f1:Int} (h:IsS62 w0 W g f0 f1):IsS62 w0 W.drew g f0 f1:=h
theorem IsS62.apart {w0 W:World} {g:Nat} {f0:List Int} {f1:Int} {α:Type} {d:Kd α} {e:Nat} {base:Nat} {ok:Nat → Prop} {v:Value} {xs:List α} (h:IsS62 w0 W g f0 f1) (ho:d.R e W base ok v xs) (ht:∀ q,q ∈ e :: d.E → q ≠ 62):d.R e W base (fun k => ok k ∧ k ≠ g) v xs:=by
 obtain ⟨A0,c0,hb,hg,hr0⟩:=h
 exact Kd.R_types ho hb ht
theorem IsS62.ge {w0 W:World} {g:Nat} {f0:List Int} {f1:Int} (h:IsS62 w0 W g f0 f1):w0.heap.size ≤ g:=by
 obtain ⟨A0,c0,hb,hg,hr0⟩:=h
 exact hg
theorem cellS62_0 {W:World} {g:Nat} {A0:Option Addr} {c0:Nat} {f0:List Int} {f1:Int} (h:W.heap[g]? = some (.cells #[.slice A0 f0.length c0,.int .i64 f1] 62 (0,0))):W.cell? ⟨g,0,none⟩ = some (.slice A0 f0.length c0):=(blk_cell h 0).trans rfl
theorem cellS62_1 {W:World} {g:Nat} {A0:Option Addr} {c0:Nat} {f0:List Int} {f1:Int} (h:W.heap[g]? = some (.cells #[.slice A0 f0.length c0,.int .i64 f1] 62 (0,0))):W.cell? ⟨g,1,none⟩ = some (.int .i64 f1):=(blk_cell h 1).trans rfl
theorem IsS62.set_1 {w0 W:World} {g:Nat} {f0:List Int} {f1:Int} (h:IsS62 w0 W g f0 f1) (x:Int):IsS62 w0 (W.setCell ⟨g,1,none⟩ (.int .i64 x)) g f0 x:=by
 obtain ⟨A0,c0,hb,hg,hr0⟩:=h
 exact ⟨A0,c0,by simpa using blk_set hb 1 (.int .i64 x),hg,hr0⟩
def spec_l1Open.f (l0:List Int):Option (List Int × Int):=some (l0,0)
theorem spec_l1Open.calls (A0:Option Addr) (c0:Nat) (l0:List Int) (r1:List Int) (r2:Int) (w0 w:World) (hB:Below w0.heap.size w0 w) (hr0:Kd.C (Kd.int .u8) w0 A0 l0.length l0) (hc0:l0.length ≤ c0) (h:spec_l1Open.f l0 = some (r1,r2)) :
  Calls Tryd.prog 26 #[.slice A0 l0.length c0] w fun e w' => ∃ g_:Nat,e = .returned (.pointer (some ⟨g_,0,none⟩)) ∧ IsS62 w0 w' g_ r1 r2 ∧ Below w0.heap.size w0 w' ∧ Below w.heap.size w w':=by
 have hu62:=Tryd.underlying62
 have HR0:=Aside0.mk hr0
 have HC0:=Aside0.mk hc0
 clear hr0 hc0
 have HBW:=Aside0.mk (Below.refl w.heap.size w)
 have HW0:=Aside0.mk hB.size
 have HB:=Aside0.mk hB
 clear hB
 have H:(some (l0,0)) = some (r1,r2):=h
 clear h
 simp only [Option.some.injEq,Prod.mk.injEq] at H
 obtain ⟨rfl,rfl⟩:=H
 go_enter Tryd.func26,Tryd.ntmps26
 go_wp2_with (first | ((with_reducible refine gate_dst (N:=5) rfl ?_);refine box_event ?hg (N:=5) ?hd (cs:=#[.slice A0 l0.length c0,.int .i64 0]) (t:=62) ?hr ?_;(case hd => rfl);(case hg => rfl);(case hr => exact q27_);intro gb101 hg w2 hbox hb;have n0_:=Aside0.mk (below_step HBW.out hb);have n1_:=Aside0.mk (below_step q9_ hb);have n2_:=Aside0.mk (hbox);have n3_:=Aside0.mk ((q3_:w.heap.size ≤ gb101));have n4_:=Aside0.mk ((Nat.le_trans HW0.out (q3_:w.heap.size ≤ gb101):w0.heap.size ≤ gb101));clear HBW;clear HB;have HBW:=n0_;have HB:=n1_;have BK101:=n2_;have GW101:=n3_;have GE101:=n4_;clear n0_ n1_ n2_ n3_ n4_;clear hb hbox hg))
 go_ret
 exact ⟨_,rfl,(show IsS62 w0 _ gb101 l0 0 from ⟨_,_,by (with_reducible repeat (first | refine blk_drewN ?_ _ | refine blk_drew ?_ | refine blk_alloc ?_ _));exact BK101.out,GE101.out,HR0.out⟩),by repeat (first | (with_reducible first | exact HB.out | apply below_alloc | apply pw_below_drewN | apply below_drew1 | refine below_set ?_ GE101.out) | exact HB.out),by repeat (first | (with_reducible first | exact HBW.out | apply below_alloc | apply pw_below_drewN | apply below_drew1 | refine below_set ?_ GW101.out) | exact HBW.out)⟩
def spec_l1Rd_next.f (s0_0:List Int) (s0_1:Int):Option (Int × Int):=if s0_1 ≥ (s0_0.length:Int) then (some (0,s0_1)) else (if 0 ≤ (wrap64 ((wrap64 (s0_1 + 1)) - 1)) then (if (wrap64 ((wrap64 (s0_1 + 1)) - 1)) < (s0_0.length:Int) then (some (wrap64 (rd s0_0 (wrap64 ((wrap64 (s0_1 + 1)) - 1))),wrap64 (s0_1 + 1))) else (none)) else (none))
theorem spec_l1Rd_next.calls (g:Nat) (s0_0:List Int) (s0_1:Int) (r1:Int) (r2:Int) (w0 w:World) (hI:IsS62 w0 w g s0_0 s0_1) (hB:Below w0.heap.size w0 w) (h:spec_l1Rd_next.f s0_0 s0_1 = some (r1,r2)) :
  Calls Tryd.prog 54 #[.pointer (some ⟨g,0,none⟩)] w fun e w' => e = .returned (.int .i64 r1) ∧ IsS62 w0 w' g s0_0 r2 ∧ Below w0.heap.size w0 w' ∧ KeepBut w w' g none:=by
 have HI0:=Aside0.mk hI
 have HK:=Aside0.mk (KeepBut.refl w g none)
 have HL:=Aside0.mk hB.size
 clear hI
 have HW0:=Aside0.mk hB.size
 have HB:=Aside0.mk hB
 clear hB
 have H:=h;unfold spec_l1Rd_next.f at H
 clear h
 by_cases c2:s0_1 ≥ (s0_0.length:Int)
 ·rw [if_pos c2] at H
  have c2b0:decide ((s0_0.length:Int) ≤ s0_1) = true:=decide_eq_true c2
  clear c2
  simp only [Option.some.injEq,Prod.mk.injEq] at H
  obtain ⟨rfl,rfl⟩:=H
  obtain ⟨ASz3_0,cSz3_0,HGz3,hgz3,HSz3_0⟩:=HI0.out
  have hcz3_0:=cellS62_0 HGz3
  have hcz3_1:=cellS62_1 HGz3
  have hfz3_1:=blk_frozen HGz3 1
  clear HGz3 hgz3
  go_enter Tryd.func54,Tryd.ntmps54
  go_wp2
  repeat (go_quiet (fail);try go_wp2)
  go_ret
  exact ⟨q10_,q4_,q2_,q5_⟩
 rw [if_neg c2] at H
 have c2b0:decide ((s0_0.length:Int) ≤ s0_1) = false:=decide_eq_false c2
 clear c2
 obtain ⟨ji4,hji4⟩:∃ j_:Int,(wrap64 ((wrap64 (s0_1 + 1)) - 1)) = j_:=⟨_,rfl⟩
 (first | rewrite [hji4] at H | simp only [hji4] at H)
 have hji4w:(IntKind.i64.wrap ((wrap64 (s0_1 + 1)) - 1)) = ji4:=(i64_w _).trans hji4
 by_cases c5:0 ≤ (ji4)
 rotate_left
 ·rw [if_neg c5] at H
  exact absurd H (by simp)
 rw [if_pos c5] at H
 have c5b0:=decide_eq_true c5
 clear c5
 by_cases c6:(ji4) < (s0_0.length:Int)
 rotate_left
 ·rw [if_neg c6] at H
  exact absurd H (by simp)
 rw [if_pos c6] at H
 have c6b0:=decide_eq_true c6
 clear c6
 simp only [Option.some.injEq,Prod.mk.injEq] at H
 obtain ⟨rfl,rfl⟩:=H
 obtain ⟨ASz7_0,cSz7_0,HGz7,hgz7,HSz7_0⟩:=HI0.out
 have hcz7_0:=cellS62_0 HGz7
 have hcz7_1:=cellS62_1 HGz7
 have hfz7_1:=blk_frozen HGz7 1
 clear HGz7 hgz7
 have p102:0 ≤ ((ji4):Int):=of_decide_eq_true q18_
 have q102:(ji4) < (s0_0.length:Int):=of_decide_eq_true q18_
 obtain ⟨ad102,e102,hx102_0⟩:=Kd.at_int HSz7_0 (ji4) p102 q102
 cases e102
 have hn102_0:ad102.block ≠ g:=Nat.ne_of_lt (Nat.lt_of_lt_of_le (by have:=World.block_lt_of_cell? _ _ hx102_0;first | rwa [add_block] at this | exact this) (IsS62.ge HI0.out))
 replace hx102_0:=pw_cell_below HB.out hx102_0
 replace hx102_0:=(cell_far (p:=⟨g,1,none⟩) (by first | (rw [add_block];exact hn102_0) | (show (Addr.add _ _).block ≠ _;rw [add_block];exact hn102_0) | exact hn102_0) (.int .i64 (wrap64 (s0_1 + 1)))).trans hx102_0
 (try have hy102_0:=fun (n_:Nat) => (show (((w.drewN n_).setCell ⟨g,1,none⟩ (.int .i64 (wrap64 (s0_1 + 1))))).cell? _ = some _ from hx102_0))
 clear hn102_0
 replace p102:=eq_true p102
 replace q102:=eq_true q102
 go_enter Tryd.func54,Tryd.ntmps54
 go_wp2
 repeat (go_quiet (fail);try go_wp2)
 go_ret
 exact ⟨by first | rfl | (simp [errW_none,errW_some] <;> rfl) | (simp only [← hji4];first | rfl | (simp [errW_none,errW_some] <;> rfl)) | (simp [*,errW_none,errW_some] <;> rfl) | (exfalso;simp_all;done),q4_,q2_,q5_⟩
def spec_l1Rd_below.f (s0_0:List Int) (s0_1:Int) (a1:Int):Option (Int × Int):=if a1 ≤ 1 then (some (0,s0_1)) else (if a1 ≤ 256 then ((spec_l1Rd_next.f s0_0 s0_1).bind fun bt103 => (if a1 = 0 then (none) else (some (Int.tmod bt103.1 a1,bt103.2)))) else ((spec_l1Rd_next.f s0_0 s0_1).bind fun bt105 => ((spec_l1Rd_next.f s0_0 bt105.2).bind fun bt107 => (if a1 = 0 then (none) else (some (Int.tmod (wrap64 ((wrap64 (bt105.1 * 256)) + bt107.1)) a1,bt107.2))))))
theorem spec_l1Rd_below.calls (g:Nat) (s0_0:List Int) (s0_1:Int) (a1:Int) (r1:Int) (r2:Int) (w0 w:World) (hI:IsS62 w0 w g s0_0 s0_1) (hB:Below w0.heap.size w0 w) (h:spec_l1Rd_below.f s0_0 s0_1 a1 = some (r1,r2)) :
  Calls Tryd.prog 30 #[.pointer (some ⟨g,0,none⟩),.int .i64 a1] w fun e w' => e = .returned (.int .i64 r1) ∧ IsS62 w0 w' g s0_0 r2 ∧ Below w0.heap.size w0 w' ∧ KeepBut w w' g none:=by
 have HI0:=Aside0.mk hI
 have HK:=Aside0.mk (KeepBut.refl w g none)
 have HL:=Aside0.mk hB.size
 clear hI
 have HW0:=Aside0.mk hB.size
 have HB:=Aside0.mk hB
 clear hB
 have H:=h;unfold spec_l1Rd_below.f at H
 clear h
 by_cases c3:a1 ≤ 1
 ·rw [if_pos c3] at H
  have c3b0:=decide_eq_true c3
  clear c3
  simp only [Option.some.injEq,Prod.mk.injEq] at H
  obtain ⟨rfl,rfl⟩:=H
  go_enter Tryd.func30,Tryd.ntmps30
  go_wp2
  go_ret
  exact ⟨q10_,q4_,q2_,q5_⟩
 rw [if_neg c3] at H
 have c3b0:=decide_eq_false c3
 clear c3
 by_cases c4:a1 ≤ 256
 ·rw [if_pos c4] at H
  have c4b0:=decide_eq_true c4
  clear c4
  replace H:=Option.bind_eq_some_iff.mp H
  obtain ⟨⟨t103,t104⟩,A50,H⟩:=H
  try dsimp -simprocs -eta only at H
  have A5:=Aside0.mk A50
  clear A50
  by_cases c6:a1 = 0
  ·rw [if_pos c6] at H
   exact absurd H (by simp)
  rw [if_neg c6] at H
  have c6b0:(a1 == 0) = false:=beq_eq_false_iff_ne.mpr c6
  have c6b1:(a1 != 0) = true:=bne_iff_ne.mpr c6
  simp only [Option.some.injEq,Prod.mk.injEq] at H
  obtain ⟨rfl,rfl⟩:=H
  go_enter Tryd.func30,Tryd.ntmps30
  go_wp2_with (first | ((with_reducible refine gate_callee (f:=54) rfl ?_);refine goesL_ (some 11) rfl rfl Tryd.func54 (by kernel_rfl) rfl #[.pointer (some ⟨g,0,none⟩)] rfl q7_ ?_;(with_reducible refine (spec_l1Rd_next.calls g s0_0 s0_1 t103 t104 w0 _ ?side1 ?side2 A5.out).mono ?_);(case side1 => exact q26_);(case side2 => exact q21_);rintro e w7 ⟨rfl,hi,hb,hk⟩;refine ⟨_,rfl,?_⟩;have n0_:=Aside0.mk (KeepBut.trans q5_ hk (.inl rfl));have n1_:=Aside0.mk (hb);have n2_:=Aside0.mk (hi);clear HK;clear HB;clear HI0;have HK:=n0_;have HB:=n1_;have HI0:=n2_;clear n0_ n1_ n2_;(try clear hb);(try clear hk);(try clear hi)))
  go_ret
  exact ⟨q10_,q4_,q2_,q5_⟩
 rw [if_neg c4] at H
 have c4b0:=decide_eq_false c4
 clear c4
 replace H:=Option.bind_eq_some_iff.mp H
 obtain ⟨⟨t105,t106⟩,A80,H⟩:=H
 try dsimp -simprocs -eta only at H
 have A8:=Aside0.mk A80
 clear A80
 replace H:=Option.bind_eq_some_iff.mp H
 obtain ⟨⟨t107,t108⟩,A90,H⟩:=H
 try dsimp -simprocs -eta only at H
 have A9:=Aside0.mk A90
 clear A90
 by_cases c10:a1 = 0
 ·rw [if_pos c10] at H
  exact absurd H (by simp)
 rw [if_neg c10] at H
 have c10b0:(a1 == 0) = false:=beq_eq_false_iff_ne.mpr c10
 have c10b1:(a1 != 0) = true:=bne_iff_ne.mpr c10
 simp only [Option.some.injEq,Prod.mk.injEq] at H
 obtain ⟨rfl,rfl⟩:=H
 go_enter Tryd.func30,Tryd.ntmps30
 go_wp2_with (first | ((with_reducible refine gate_callee (f:=54) rfl ?_);refine goesL_ (some 15) rfl rfl Tryd.func54 (by kernel_rfl) rfl #[.pointer (some ⟨g,0,none⟩)] rfl q7_ ?_;(with_reducible refine (spec_l1Rd_next.calls g s0_0 s0_1 t105 t106 w0 _ ?side1 ?side2 A8.out).mono ?_);(case side1 => exact q26_);(case side2 => exact q21_);rintro e w11 ⟨rfl,hi,hb,hk⟩;refine ⟨_,rfl,?_⟩;have n0_:=Aside0.mk (KeepBut.trans q5_ hk (.inl rfl));have n1_:=Aside0.mk (hb);have n2_:=Aside0.mk (hi);clear HK;clear HB;clear HI0;have HK:=n0_;have HB:=n1_;have HI0:=n2_;clear n0_ n1_ n2_;(try clear hb);(try clear hk);(try clear hi)) | ((with_reducible refine gate_callee (f:=54) rfl ?_);refine goesL_ (some 19) rfl rfl Tryd.func54 (by kernel_rfl) rfl #[.pointer (some ⟨g,0,none⟩)] rfl q7_ ?_;(with_reducible refine (spec_l1Rd_next.calls g s0_0 t106 t107 t108 w0 _ ?side1 ?side2 A9.out).mono ?_);(case side1 => exact q26_);(case side2 => exact q21_);rintro e w12 ⟨rfl,hi,hb,hk⟩;refine ⟨_,rfl,?_⟩;have n0_:=Aside0.mk (KeepBut.trans q5_ hk (.inl rfl));have n1_:=Aside0.mk (hb);have n2_:=Aside0.mk (hi);clear HK;clear HB;clear HI0;have HK:=n0_;have HB:=n1_;have HI0:=n2_;clear n0_ n1_ n2_;(try clear hb);(try clear hk);(try clear hi)))
 go_ret
 exact ⟨q10_,q4_,q2_,q5_⟩
def spec_l1Rd_once.f (s0_0:List Int) (s0_1:Int) (a1:Int):Option (Bool × Int):=(spec_l1Rd_below.f s0_0 s0_1 a1).bind fun bt109 => (some ((bt109.1 == (wrap64 (a1 - 1))),bt109.2))
theorem spec_l1Rd_once.calls (g:Nat) (s0_0:List Int) (s0_1:Int) (a1:Int) (r1:Bool) (r2:Int) (w0 w:World) (hI:IsS62 w0 w g s0_0 s0_1) (hB:Below w0.heap.size w0 w) (h:spec_l1Rd_once.f s0_0 s0_1 a1 = some (r1,r2)) :
  Calls Tryd.prog 27 #[.pointer (some ⟨g,0,none⟩),.int .i64 a1] w fun e w' => e = .returned (.bool r1) ∧ IsS62 w0 w' g s0_0 r2 ∧ Below w0.heap.size w0 w' ∧ KeepBut w w' g none:=by
 have HI0:=Aside0.mk hI
 have HK:=Aside0.mk (KeepBut.refl w g none)
 have HL:=Aside0.mk hB.size
 clear hI
 have HW0:=Aside0.mk hB.size
 have HB:=Aside0.mk hB
 clear hB
 have H:=h;unfold spec_l1Rd_once.f at H
 clear h
 replace H:=Option.bind_eq_some_iff.mp H
 obtain ⟨⟨t109,t110⟩,A30,H⟩:=H
 try dsimp -simprocs -eta only at H
 have A3:=Aside0.mk A30
 clear A30
 simp only [Option.some.injEq,Prod.mk.injEq] at H
 obtain ⟨rfl,rfl⟩:=H
 go_enter Tryd.func27,Tryd.ntmps27
 go_wp2_with (first | ((with_reducible refine gate_callee (f:=30) rfl ?_);refine goesL_ (some 7) rfl rfl Tryd.func30 (by kernel_rfl) rfl #[.pointer (some ⟨g,0,none⟩),.int .i64 a1] rfl q7_ ?_;(with_reducible refine (spec_l1Rd_below.calls g s0_0 s0_1 a1 t109 t110 w0 _ ?side1 ?side2 A3.out).mono ?_);(case side1 => exact q26_);(case side2 => exact q21_);rintro e w4 ⟨rfl,hi,hb,hk⟩;refine ⟨_,rfl,?_⟩;have n0_:=Aside0.mk (KeepBut.trans q5_ hk (.inl rfl));have n1_:=Aside0.mk (hb);have n2_:=Aside0.mk (hi);clear HK;clear HB;clear HI0;have HK:=n0_;have HB:=n1_;have HI0:=n2_;clear n0_ n1_ n2_;(try clear hb);(try clear hk);(try clear hi)))
 go_ret
 exact ⟨q10_,q4_,q2_,q5_⟩
def spec_l1Rd_hurt.f (s0_0:List Int) (s0_1:Int) (a1:ByteArray):Option (ByteArray × Int):=(spec_l1Rd_below.f s0_0 s0_1 6).bind fun bt111 => (if bt111.1 = 1 then ((spec_l1Rd_below.f s0_0 bt111.2 (wrap64 ((a1.size:Int) + 1))).bind fun bt113 => (if 0 ≤ bt113.1 then (if bt113.1 ≤ (a1.size:Int) then (some (a1.extract 0 (bt113.1:Int).toNat,bt113.2)) else (none)) else (none))) else (if bt111.1 = 2 then (if (a1.size:Int) > 0 then ((spec_l1Rd_below.f s0_0 bt111.2 (a1.size:Int)).bind fun bt115 => (if 0 ≤ bt115.1 then (if bt115.1 ≤ (a1.size:Int) then ((some (([(⟨#[48]⟩:ByteArray),(⟨#[97]⟩:ByteArray),(⟨#[32]⟩:ByteArray),(⟨#[44]⟩:ByteArray),(⟨#[36]⟩:ByteArray),(⟨#[43]⟩:ByteArray)]:List ByteArray):List ByteArray)).bind fun y117 => ((spec_l1Rd_below.f s0_0 bt115.2 6).bind fun bt120 => (if 0 ≤ bt120.1 then (if bt120.1 < (y117.length:Int) then (if (a1.extract 0 (bt115.1:Int).toNat).size + (rdOf ByteArray.empty y117 bt120.1).size ≤ 9223372036854775807 then (if 0 ≤ (wrap64 (bt115.1 + 1)) then (if (wrap64 (bt115.1 + 1)) ≤ (a1.size:Int) then (if ((a1.extract 0 (bt115.1:Int).toNat) ++ (rdOf ByteArray.empty y117 bt120.1)).size + (a1.extract ((wrap64 (bt115.1 + 1)):Int).toNat a1.size).size ≤ 9223372036854775807 then (some (((a1.extract 0 (bt115.1:Int).toNat) ++ (rdOf ByteArray.empty y117 bt120.1)) ++ (a1.extract ((wrap64 (bt115.1 + 1)):Int).toNat a1.size),bt120.2)) else (none)) else (none)) else (none)) else (none)) else (none)) else (none)))) else (none)) else (none))) else (some (a1,bt111.2))) else (if bt111.1 = 3 then ((some (([(⟨#[32]⟩:ByteArray),(⟨#[48]⟩:ByteArray),(⟨#[120]⟩:ByteArray)]:List ByteArray):List ByteArray)).bind fun y123 => ((spec_l1Rd_below.f s0_0 bt111.2 3).bind fun bt126 => (if 0 ≤ bt126.1 then (if bt126.1 < (y123.length:Int) then (if a1.size + (rdOf ByteArray.empty y123 bt126.1).size ≤ 9223372036854775807 then (some (a1 ++ (rdOf ByteArray.empty y123 bt126.1),bt126.2)) else (none)) else (none)) else (none)))) else (some (a1,bt111.2)))))
def spec_l1Rd_hurt.T7:Bool × List (List Nat × List Nat):=(true,[([],[]),([],[]),([0,1],[0,1]),([],[]),([],[]),([4],[4]),([3,5],[3,5]),([6],[6]),([2,7],[2,7]),([],[]),([],[]),([10],[10]),([9,11],[9,11]),([8,12],[8,12]),([13,5,0,1,2,3,4,5,6,7,8,9,10,11,12,13],[13])])
def spec_l1Rd_hurt.B7:List Nat:=[0,0,3,0,0,16,56,120,255,0,0,1024,3584,8191,16383]
theorem spec_l1Rd_hurt.tab7:rtab .any (opsOf Tryd.f28 7) = spec_l1Rd_hurt.T7:=by kernel_rfl
theorem spec_l1Rd_hurt.bits7:waitsOk spec_l1Rd_hurt.T7.2 spec_l1Rd_hurt.B7 = true:=by kernel_rfl
theorem spec_l1Rd_hurt.calls (g:Nat) (s0_0:List Int) (s0_1:Int) (a1:ByteArray) (r1:ByteArray) (r2:Int) (w0 w:World) (hI:IsS62 w0 w g s0_0 s0_1) (hB:Below w0.heap.size w0 w) (h:spec_l1Rd_hurt.f s0_0 s0_1 a1 = some (r1,r2)) :
  Calls Tryd.prog 28 #[.pointer (some ⟨g,0,none⟩),.string a1] w fun e w' => e = .returned (.string r1) ∧ IsS62 w0 w' g s0_0 r2 ∧ Below w0.heap.size w0 w' ∧ KeepBut w w' g none:=by
 have HI0:=Aside0.mk hI
 have HK:=Aside0.mk (KeepBut.refl w g none)
 have HL:=Aside0.mk hB.size
 clear hI
 have HW0:=Aside0.mk hB.size
 have HB:=Aside0.mk hB
 clear hB
 have H:=h;unfold spec_l1Rd_hurt.f at H
 clear h
 replace H:=Option.bind_eq_some_iff.mp H
 obtain ⟨⟨t111,t112⟩,A30,H⟩:=H
 try dsimp -simprocs -eta only at H
 have A3:=Aside0.mk A30
 clear A30
 by_cases c4:t111 = 1
 ·rw [if_pos c4] at H
  have c4b0:(t111 == 1) = true:=beq_iff_eq.mpr c4
  have c4b1:(t111 != 1) = false:=bne_eq_false_iff_eq.mpr c4
  clear c4
  replace H:=Option.bind_eq_some_iff.mp H
  obtain ⟨⟨t113,t114⟩,A50,H⟩:=H
  try dsimp -simprocs -eta only at H
  have A5:=Aside0.mk A50
  clear A50
  by_cases c6:0 ≤ t113
  rotate_left
  ·rw [if_neg c6] at H
   exact absurd H (by simp)
  rw [if_pos c6] at H
  have c6b0:=eq_true c6
  have c6b1:=decide_eq_true c6
  clear c6
  by_cases c7:t113 ≤ (a1.size:Int)
  rotate_left
  ·rw [if_neg c7] at H
   exact absurd H (by simp)
  rw [if_pos c7] at H
  have c7b0:=eq_true c7
  have c7b1:=decide_eq_true c7
  clear c7
  simp only [Option.some.injEq,Prod.mk.injEq] at H
  obtain ⟨rfl,rfl⟩:=H
  go_enter Tryd.func28,Tryd.ntmps28
  go_wp2_with (first | ((with_reducible refine gate_callee (f:=30) rfl ?_);refine goesL_ (some 7) rfl rfl Tryd.func30 (by kernel_rfl) rfl #[.pointer (some ⟨g,0,none⟩),.int .i64 6] rfl q7_ ?_;(with_reducible refine (spec_l1Rd_below.calls g s0_0 s0_1 6 t111 t112 w0 _ ?side1 ?side2 A3.out).mono ?_);(case side1 => exact q26_);(case side2 => exact q21_);rintro e w8 ⟨rfl,hi,hb,hk⟩;refine ⟨_,rfl,?_⟩;have n0_:=Aside0.mk (KeepBut.trans q5_ hk (.inl rfl));have n1_:=Aside0.mk (hb);have n2_:=Aside0.mk (hi);clear HK;clear HB;clear HI0;have HK:=n0_;have HB:=n1_;have HI0:=n2_;clear n0_ n1_ n2_;(try clear hb);(try clear hk);(try clear hi)) | ((with_reducible refine gate_callee (f:=30) rfl ?_);refine goesL_ (some 15) rfl rfl Tryd.func30 (by kernel_rfl) rfl #[.pointer (some ⟨g,0,none⟩),.int .i64 (wrap64 ((a1.size:Int) + 1))] rfl (by (try simp only [List.map_toArray,List.map_cons,List.map_nil]);first | done | rfl | (simp only [List.length_drop,List.length_take];rfl) | (refine Eq.trans (b:=#[.pointer (some ⟨g,0,none⟩),.int .i64 (((a1.size:Int) + 1))]) rfl ?_;simp [wrap64] <;> omega)) ?_;(with_reducible refine (spec_l1Rd_below.calls g s0_0 t112 (wrap64 ((a1.size:Int) + 1)) t113 t114 w0 _ ?side1 ?side2 A5.out).mono ?_);(case side1 => exact q26_);(case side2 => exact q21_);rintro e w9 ⟨rfl,hi,hb,hk⟩;refine ⟨_,rfl,?_⟩;have n0_:=Aside0.mk (KeepBut.trans q5_ hk (.inl rfl));have n1_:=Aside0.mk (hb);have n2_:=Aside0.mk (hi);clear HK;clear HB;clear HI0;have HK:=n0_;have HB:=n1_;have HI0:=n2_;clear n0_ n1_ n2_;(try clear hb);(try clear hk);(try clear hi)))
  go_ret
  exact ⟨q10_,q4_,q2_,q5_⟩
 rw [if_neg c4] at H
 have c4b0:(t111 == 1) = false:=beq_eq_false_iff_ne.mpr c4
 have c4b1:(t111 != 1) = true:=bne_iff_ne.mpr c4
 by_cases c10:t111 = 2
 ·rw [if_pos c10] at H
  have c10b0:(t111 == 2) = true:=beq_iff_eq.mpr c10
  have c10b1:(t111 != 2) = false:=bne_eq_false_iff_eq.mpr c10
  clear c10
  by_cases c11:(a1.size:Int) > 0
  ·rw [if_pos c11] at H
   have c11b0:decide (0 < (a1.size:Int)) = true:=decide_eq_true c11
   have c11b1:decide (0 < a1.size) = true:=decide_eq_true (by omega)
   clear c11
   replace H:=Option.bind_eq_some_iff.mp H
   obtain ⟨⟨t115,t116⟩,A120,H⟩:=H
   try dsimp -simprocs -eta only at H
   have A12:=Aside0.mk A120
   clear A120
   by_cases c13:0 ≤ t115
   rotate_left
   ·rw [if_neg c13] at H
    exact absurd H (by simp)
   rw [if_pos c13] at H
   have c13b0:=eq_true c13
   have c13b1:=decide_eq_true c13
   clear c13
   by_cases c14:t115 ≤ (a1.size:Int)
   rotate_left
   ·rw [if_neg c14] at H
    exact absurd H (by simp)
   rw [if_pos c14] at H
   have c14b0:=eq_true c14
   have c14b1:=decide_eq_true c14
   clear c14
   obtain ⟨y117,hy117⟩:∃ y_:List ByteArray,y_ = (([(⟨#[48]⟩:ByteArray),(⟨#[97]⟩:ByteArray),(⟨#[32]⟩:ByteArray),(⟨#[44]⟩:ByteArray),(⟨#[36]⟩:ByteArray),(⟨#[43]⟩:ByteArray)]:List ByteArray)):=⟨_,rfl⟩
   replace H:((spec_l1Rd_below.f s0_0 t116 6).bind fun bt120 => (if 0 ≤ bt120.1 then (if bt120.1 < (y117.length:Int) then (if (a1.extract 0 (t115:Int).toNat).size + (rdOf ByteArray.empty y117 bt120.1).size ≤ 9223372036854775807 then (if 0 ≤ (wrap64 (t115 + 1)) then (if (wrap64 (t115 + 1)) ≤ (a1.size:Int) then (if ((a1.extract 0 (t115:Int).toNat) ++ (rdOf ByteArray.empty y117 bt120.1)).size + (a1.extract ((wrap64 (t115 + 1)):Int).toNat a1.size).size ≤ 9223372036854775807 then (some (((a1.extract 0 (t115:Int).toNat) ++ (rdOf ByteArray.empty y117 bt120.1)) ++ (a1.extract ((wrap64 (t115 + 1)):Int).toNat a1.size),bt120.2)) else (none)) else (none)) else (none)) else (none)) else (none)) else (none))) = some (r1,r2):=by first | (rw [hy117];exact H) | exact H
   have Ny117:=Aside0.mk hy117
   clear hy117
   replace H:=Option.bind_eq_some_iff.mp H
   obtain ⟨⟨t120,t121⟩,A150,H⟩:=H
   try dsimp -simprocs -eta only at H
   have A15:=Aside0.mk A150
   clear A150
   by_cases c16:0 ≤ t120
   rotate_left
   ·rw [if_neg c16] at H
    exact absurd H (by simp)
   rw [if_pos c16] at H
   have c16b0:=decide_eq_true c16
   clear c16
   by_cases c17:t120 < (y117.length:Int)
   rotate_left
   ·rw [if_neg c17] at H
    exact absurd H (by simp)
   rw [if_pos c17] at H
   have c17b0:=decide_eq_true c17
   clear c17
   by_cases c18:(a1.extract 0 (t115:Int).toNat).size + (rdOf ByteArray.empty y117 t120).size ≤ 9223372036854775807
   rotate_left
   ·rw [if_neg c18] at H
    exact absurd H (by simp)
   rw [if_pos c18] at H
   have c18b0:=eq_true c18
   (try (have c18b0e:=c18b0;simp only [ByteArray.size_append,ByteArray.size_extract,Nat.min_self,Nat.sub_zero] at c18b0e))
   (try (have c18b0f:=c18b0e;simp only [show min (t115:Int).toNat a1.size = (t115:Int).toNat from Nat.min_eq_left (by have q_:t115 ≤ (a1.size:Int):=of_decide_eq_true q18_;omega)] at c18b0f))
   have c18b1:=decide_eq_true c18
   (try (have c18b1e:=c18b1;simp only [ByteArray.size_append,ByteArray.size_extract,Nat.min_self,Nat.sub_zero] at c18b1e))
   (try (have c18b1f:=c18b1e;simp only [show min (t115:Int).toNat a1.size = (t115:Int).toNat from Nat.min_eq_left (by have q_:t115 ≤ (a1.size:Int):=of_decide_eq_true q18_;omega)] at c18b1f))
   try have c18b2:(9223372036854775807 < (a1.extract 0 (t115:Int).toNat).size + (rdOf ByteArray.empty y117 t120).size) = False:=eq_false (Nat.not_lt.2 c18)
   (try (have c18b2e:=c18b2;simp only [ByteArray.size_append,ByteArray.size_extract,Nat.min_self,Nat.sub_zero] at c18b2e))
   (try (first | (have c18b2p:=eq_true (of_decide_eq_true c18b2e)) | (have c18b2p:=eq_false (of_decide_eq_false c18b2e))))
   (try (have c18b2f:=c18b2e;simp only [show min (t115:Int).toNat a1.size = (t115:Int).toNat from Nat.min_eq_left (by have q_:t115 ≤ (a1.size:Int):=of_decide_eq_true q18_;omega)] at c18b2f))
   obtain ⟨ji19,hji19⟩:∃ j_:Int,(wrap64 (t115 + 1)) = j_:=⟨_,rfl⟩
   (first | rewrite [hji19] at H | simp only [hji19] at H)
   (try rw [hji19] at A3)
   (try rw [hji19] at A12)
   (try rw [hji19] at A15)
   have hji19w:(IntKind.i64.wrap (t115 + 1)) = ji19:=(i64_w _).trans hji19
   by_cases c20:0 ≤ (ji19)
   rotate_left
   ·rw [if_neg c20] at H
    exact absurd H (by simp)
   rw [if_pos c20] at H
   have c20b0:=eq_true c20
   have c20b1:=decide_eq_true c20
   clear c20
   by_cases c21:(ji19) ≤ (a1.size:Int)
   rotate_left
   ·rw [if_neg c21] at H
    exact absurd H (by simp)
   rw [if_pos c21] at H
   have c21b0:=eq_true c21
   have c21b1:=decide_eq_true c21
   clear c21
   by_cases c22:((a1.extract 0 (t115:Int).toNat) ++ (rdOf ByteArray.empty y117 t120)).size + (a1.extract ((ji19):Int).toNat a1.size).size ≤ 9223372036854775807
   rotate_left
   ·rw [if_neg c22] at H
    exact absurd H (by simp)
   rw [if_pos c22] at H
   have c22b0:=eq_true c22
   (try (have c22b0e:=c22b0;simp only [ByteArray.size_append,ByteArray.size_extract,Nat.min_self,Nat.sub_zero] at c22b0e))
   (try (have c22b0f:=c22b0e;simp only [show min (t115:Int).toNat a1.size = (t115:Int).toNat from Nat.min_eq_left (by have q_:t115 ≤ (a1.size:Int):=of_decide_eq_true q18_;omega)] at c22b0f))
   have c22b1:=decide_eq_true c22
   (try (have c22b1e:=c22b1;simp only [ByteArray.size_append,ByteArray.size_extract,Nat.min_self,Nat.sub_zero] at c22b1e))
   (try (have c22b1f:=c22b1e;simp only [show min (t115:Int).toNat a1.size = (t115:Int).toNat from Nat.min_eq_left (by have q_:t115 ≤ (a1.size:Int):=of_decide_eq_true q18_;omega)] at c22b1f))
   try have c22b2:(9223372036854775807 < ((a1.extract 0 (t115:Int).toNat) ++ (rdOf ByteArray.empty y117 t120)).size + (a1.extract ((ji19):Int).toNat a1.size).size) = False:=eq_false (Nat.not_lt.2 c22)
   (try (have c22b2e:=c22b2;simp only [ByteArray.size_append,ByteArray.size_extract,Nat.min_self,Nat.sub_zero] at c22b2e))
   (try (first | (have c22b2p:=eq_true (of_decide_eq_true c22b2e)) | (have c22b2p:=eq_false (of_decide_eq_false c22b2e))))
   (try (have c22b2f:=c22b2e;simp only [show min (t115:Int).toNat a1.size = (t115:Int).toNat from Nat.min_eq_left (by have q_:t115 ≤ (a1.size:Int):=of_decide_eq_true q18_;omega)] at c22b2f))
   simp only [Option.some.injEq,Prod.mk.injEq] at H
   obtain ⟨rfl,rfl⟩:=H
   go_enter Tryd.func28,Tryd.ntmps28
   try go_wp2_with (first | ((with_reducible refine gate_callee (f:=30) rfl ?_);refine goesL_ (some 7) rfl rfl Tryd.func30 (by kernel_rfl) rfl #[.pointer (some ⟨g,0,none⟩),.int .i64 6] rfl q7_ ?_;(with_reducible refine (spec_l1Rd_below.calls g s0_0 s0_1 6 t111 t112 w0 _ ?side1 ?side2 A3.out).mono ?_);(case side1 => exact q26_);(case side2 => exact q21_);rintro e w23 ⟨rfl,hi,hb,hk⟩;refine ⟨_,rfl,?_⟩;have n0_:=Aside0.mk (KeepBut.trans q5_ hk (.inl rfl));have n1_:=Aside0.mk (hb);have n2_:=Aside0.mk (hi);clear HK;clear HB;clear HI0;have HK:=n0_;have HB:=n1_;have HI0:=n2_;clear n0_ n1_ n2_;(try clear hb);(try clear hk);(try clear hi)) | ((with_reducible refine gate_callee (f:=30) rfl ?_);refine goesL_ (some 25) rfl rfl Tryd.func30 (by kernel_rfl) rfl #[.pointer (some ⟨g,0,none⟩),.int .i64 (a1.size:Int)] rfl q7_ ?_;(with_reducible refine (spec_l1Rd_below.calls g s0_0 t112 (a1.size:Int) t115 t116 w0 _ ?side1 ?side2 A12.out).mono ?_);(case side1 => exact q26_);(case side2 => exact q21_);rintro e w24 ⟨rfl,hi,hb,hk⟩;refine ⟨_,rfl,?_⟩;have n0_:=Aside0.mk (KeepBut.trans q5_ hk (.inl rfl));have n1_:=Aside0.mk (hb);have n2_:=Aside0.mk (hi);clear HK;clear HB;clear HI0;have HK:=n0_;have HB:=n1_;have HI0:=n2_;clear n0_ n1_ n2_;(try clear hb);(try clear hk);(try clear hi)))
   have pi122:(0 ≤ (t120:Int)) = True:=eq_true (of_decide_eq_true q18_)
   have qi122:(t120 < (y117.length:Int)) = True:=eq_true (of_decide_eq_true q18_)
   have n0_:=Aside0.mk (IsS62.drew HI0.out)
   have n1_:=Aside0.mk (keep_drew HK.out)
   have n2_:=Aside0.mk (below_drew1 HB.out)
   clear HI0
   clear HK
   clear HB
   have HI0:=n0_
   have HK:=n1_
   have HB:=n2_
   clear n0_ n1_ n2_
   refine start_ (n:=15) (S:=fun w' => True) (ds:=[]) #[false,false,false,false,false,false,false,false,false,false,false,false,false,false,false] (by kernel_rfl) rfl rfl trivial (fun hHeld => ?_);refine with_tabW spec_l1Rd_hurt.tab7 spec_l1Rd_hurt.bits7 (fun HT_ HW_ => ?_)
   generalize w24.drew = w25 at HI0 HK HB hHeld ⊢
   refine pure_ (i:=0) (N:=some 26) (v:=?_) (a':=?_) #[true,false,false,false,false,false,false,false,false,false,false,false,false,false,false] rfl rfl (any_of HT_.out (by kernel_rfl)) (fun _ _ _ h => h) (Or.inl ⟨by rfl,?_⟩) ?_ ?_
   rotate_left
   ·intro w'
    go_simp
    with_reducible rfl
   rotate_left
   ·simp only [Act.put,List.setIfInBounds_toArray,List.set_cons_zero,List.set_cons_succ,i64_w,i32_w]
    rfl
   refine pure_ (i:=1) (N:=some 27) (v:=?_) (a':=?_) #[true,true,false,false,false,false,false,false,false,false,false,false,false,false,false] rfl rfl (any_of HT_.out (by kernel_rfl)) (fun _ _ _ h => h) (Or.inl ⟨by rfl,?_⟩) ?_ ?_
   rotate_left
   ·intro w'
    go_simp
    with_reducible rfl
   rotate_left
   ·simp only [Act.put,List.setIfInBounds_toArray,List.set_cons_zero,List.set_cons_succ,i64_w,i32_w]
    rfl
   refine pure_ (i:=4) (N:=some 30) (v:=?_) (a':=?_) #[true,true,false,false,true,false,false,false,false,false,false,false,false,false,false] rfl rfl (any_of HT_.out (by kernel_rfl)) (fun _ _ _ h => h) (Or.inl ⟨by rfl,?_⟩) ?_ ?_
   rotate_left
   ·intro w'
    go_simp
    with_reducible rfl
   rotate_left
   ·simp only [Act.put,List.setIfInBounds_toArray,List.set_cons_zero,List.set_cons_succ,i64_w,i32_w]
    rfl
   refine pure_ (i:=9) (N:=some 35) (v:=?_) (a':=?_) #[true,true,false,false,true,false,false,false,false,true,false,false,false,false,false] rfl rfl (any_of HT_.out (by kernel_rfl)) (fun _ _ _ h => h) (Or.inl ⟨by rfl,?_⟩) ?_ ?_
   rotate_left
   ·intro w'
    go_simp
    with_reducible rfl
   rotate_left
   ·simp only [Act.put,List.setIfInBounds_toArray,List.set_cons_zero,List.set_cons_succ,i64_w,i32_w]
    rfl
   refine pure_ (i:=10) (N:=some 36) (v:=?_) (a':=?_) #[true,true,false,false,true,false,false,false,false,true,true,false,false,false,false] rfl rfl (any_of HT_.out (by kernel_rfl)) (fun _ _ _ h => h) (Or.inl ⟨by rfl,?_⟩) ?_ ?_
   rotate_left
   ·intro w'
    go_simp
    with_reducible rfl
   rotate_left
   ·simp only [Act.put,List.setIfInBounds_toArray,List.set_cons_zero,List.set_cons_succ,i64_w,i32_w]
    rfl
   refine inv_at [2,3,5,6,7,8,11,12,13,14] (fun a0_ b a w' => ∃ (v118:Value) (adz_v118:Addr) (m6_:Value),a = putSel a0_ b [(2,28,.string (a1.extract 0 (t115:Int).toNat)),(3,29,v118),(5,31,.int .i64 t120),(6,32,m6_),(7,33,.string (rdOf ByteArray.empty y117 t120)),(8,34,.string ((a1.extract 0 (t115:Int).toNat) ++ (rdOf ByteArray.empty y117 t120))),(11,37,.int .i64 ji19),(12,38,.string (a1.extract ((ji19):Int).toNat a1.size)),(13,39,.string (((a1.extract 0 (t115:Int).toNat) ++ (rdOf ByteArray.empty y117 t120)) ++ (a1.extract ((ji19):Int).toNat a1.size))),(14,4,.string (((a1.extract 0 (t115:Int).toNat) ++ (rdOf ByteArray.empty y117 t120)) ++ (a1.extract ((ji19):Int).toNat a1.size)))] ∧ (b 5 = false → IsS62 w0 w' g s0_0 t116) ∧ (KeepBut w w' g none) ∧ (Below w0.heap.size w0 w') ∧ (b 3 = true → Kd.R Kd.string 9 w' w.heap.size (fun _ => True) v118 y117) ∧ (b 3 = true → ∃ c_,(v118:Value) = .slice (some adz_v118) y117.length c_) ∧ (b 5 = true → IsS62 w0 w' g s0_0 t121) ∧ (b 6 = true → (m6_:Value) = .pointer (some (adz_v118.add (t120).toNat)))) HT_.out HW_.out (by kernel_rfl) (by kernel_rfl) ?_ ?_ ?_
   ·exact ⟨.bool false,⟨0,0,none⟩,.bool false,by simp only [putSel,Bool.false_eq_true,if_false],fun _ => HI0.out,HK.out,HB.out,fun h_ => absurd h_ (by decide),fun h_ => absurd h_ (by decide),fun h_ => absurd h_ (by decide),fun h_ => absurd h_ (by decide)⟩
   ·skip
    clear HB HI0 HK
    refine steps_cons ?_ ?_
    ·rintro b a w' ⟨v118,adz_v118,m6_,ha,Q_HI0,Q_HK,Q_HB,Q_HO119,Q_HA_HO119,Q_HI0_e5,Q_X6_⟩ hb_ hon hoff
     refine ⟨_,rfl,fun K hK => ?_⟩
     have e26:a.tmps[26]? = some (.string a1):=by rw [ha];exact (putSel_off rfl).trans rfl
     have e27:a.tmps[27]? = some (.int .i64 t115):=by rw [ha];exact (putSel_off rfl).trans rfl
     replace ha:=Aside0.mk ha
     have HK:=Aside0.mk Q_HK
     have HB:=Aside0.mk Q_HB
     refine value_ (w1:=w') (v:=.string (a1.extract 0 (t115:Int).toNat)) (by rfl) rfl ?_ ?_
     ·go_simp
      (try simp only [i64_w])
      try rfl
     refine hK.out _ _ ⟨v118,adz_v118,m6_,(by rw [ha.out];exact putSel_upk 0 hb_ rfl rfl rfl),Q_HI0,Q_HK,Q_HB,Q_HO119,Q_HA_HO119,Q_HI0_e5,Q_X6_⟩
    refine steps_cons ?_ ?_
    ·rintro b a w' ⟨v118,adz_v118,m6_,ha,Q_HI0,Q_HK,Q_HB,Q_HO119,Q_HA_HO119,Q_HI0_e5,Q_X6_⟩ hb_ hon hoff
     refine ⟨_,rfl,fun K hK => ?_⟩
     replace ha:=Aside0.mk ha
     have HK:=Aside0.mk Q_HK
     have HB:=Aside0.mk Q_HB
     refine Kd.R_lit_step Kd.string _ 9 ?hg (N:=29) ?hd (xs:=([(⟨#[48]⟩:ByteArray),(⟨#[97]⟩:ByteArray),(⟨#[32]⟩:ByteArray),(⟨#[44]⟩:ByteArray),(⟨#[36]⟩:ByteArray),(⟨#[43]⟩:ByteArray)]:List ByteArray)) (inner:=[.string (⟨#[48]⟩:ByteArray),.string (⟨#[97]⟩:ByteArray),.string (⟨#[32]⟩:ByteArray),.string (⟨#[44]⟩:ByteArray),.string (⟨#[36]⟩:ByteArray),.string (⟨#[43]⟩:ByteArray)]) (ok:=fun _ => True) (okp:=fun _ => True) ?hr ?hp (fun _ hk => hk) trivial (Below.refl _ _) (Nat.le_refl _) (by simp) ?_;(case hd => rfl);(case hg => rfl);(case hr => exact q27_);(case hp => exact (Reps.one (show Kd.M Kd.string _ _ _ (⟨#[48]⟩:ByteArray) [.string (⟨#[48]⟩:ByteArray)] from rfl) (Reps.one (show Kd.M Kd.string _ _ _ (⟨#[97]⟩:ByteArray) [.string (⟨#[97]⟩:ByteArray)] from rfl) (Reps.one (show Kd.M Kd.string _ _ _ (⟨#[32]⟩:ByteArray) [.string (⟨#[32]⟩:ByteArray)] from rfl) (Reps.one (show Kd.M Kd.string _ _ _ (⟨#[44]⟩:ByteArray) [.string (⟨#[44]⟩:ByteArray)] from rfl) (Reps.one (show Kd.M Kd.string _ _ _ (⟨#[36]⟩:ByteArray) [.string (⟨#[36]⟩:ByteArray)] from rfl) (Reps.one (show Kd.M Kd.string _ _ _ (⟨#[43]⟩:ByteArray) [.string (⟨#[43]⟩:ByteArray)] from rfl) (Reps.none _ _))))))))
     intro v118 w26 ho27 hb hg_ hnew_
     clear hg_ hnew_
     (first | rw [← Ny117.out] at ho27 | (simp only [Int.reduceToNat] at ho27;rw [← Ny117.out] at ho27))
     have n0_:=Aside0.mk (Kd.R_lower ho27 (keep_size (w:=w) (g:=g) (row:=none) q5_))
     have n2_:=Aside0.mk (KeepBut.trans q5_ (KeepBut.of_below hb g none) (.inl rfl))
     have n3_:=Aside0.mk (below_step q9_ hb)
     have z_HI0:=fun (h0_:b 5 = false) => (show IsS62 w0 w26 g s0_0 t116 from by first | exact (IsS62.below (by repeat (first | (with_reducible first | exact (Q_HI0 h0_) | apply IsS62.alloc | apply IsS62.drewN | apply IsS62.drew | apply IsS62.set_1) | exact (Q_HI0 h0_))) hb))
     have z_HI0_e5:=fun (h0_:b 5 = true) => (show IsS62 w0 w26 g s0_0 t121 from by first | exact (IsS62.below (by repeat (first | (with_reducible first | exact (Q_HI0_e5 h0_) | apply IsS62.alloc | apply IsS62.drewN | apply IsS62.drew | apply IsS62.set_1) | exact (Q_HI0_e5 h0_))) hb))
     clear HK
     clear HB
     have HO119:=n0_
     have HK:=n2_
     have HB:=n3_
     clear n0_ n2_ n3_
     clear hb ho27
     obtain ⟨Ao28,co28,eo28⟩:=Kd.R_slice HO119.out
     subst eo28
     obtain ⟨ado28,fo28,_⟩:=Kd.at_string (Kd.R_reads' HO119.out).2.2 0 (by decide) (by rw [Ny117.out];simp)
     cases fo28
     refine hK.out _ _ ⟨.slice (some ado28) y117.length co28,ado28,m6_,(by rw [ha.out];exact putSel_upk 1 hb_ rfl rfl rfl),z_HI0,q5_,q9_,fun _ => (by (with_reducible repeat (first | apply Kd.R_alloc | apply Kd.R_drewN | apply Kd.R_drew));exact HO119.out),fun _ => ⟨_,rfl⟩,z_HI0_e5,fun h0_ => absurd ((hoff 6 (by kernel_rfl)).symm.trans h0_) (by decide)⟩
    refine steps_cons ?_ ?_
    ·rintro b a w' ⟨v118,adz_v118,m6_,ha,Q_HI0,Q_HK,Q_HB,Q_HO119,Q_HA_HO119,Q_HI0_e5,Q_X6_⟩ hb_ hon hoff
     refine ⟨_,rfl,fun K hK => ?_⟩
     have e30:a.tmps[30]? = some (.pointer (some ⟨g,0,none⟩)):=by rw [ha];exact (putSel_off rfl).trans rfl
     replace ha:=Aside0.mk ha
     have HI0:=Aside0.mk (Q_HI0 hb_)
     have HK:=Aside0.mk Q_HK
     have HB:=Aside0.mk Q_HB
     refine goes_ Tryd.func30 (by kernel_rfl) rfl #[.pointer (some ⟨g,0,none⟩),.int .i64 6] (by rfl) rfl rfl (by first | (simp only [List.map_toArray,List.map_cons,List.map_nil,Act.eval,Array.getD_eq_getD_getElem?,Option.getD_some,e30];done) | (simp only [List.map_toArray,List.map_cons,List.map_nil,Act.eval,Array.getD_eq_getD_getElem?,Option.getD_some,e30];rfl)) ?_
     with_reducible refine (spec_l1Rd_below.calls g s0_0 t116 6 t120 t121 w0 _ ?side1 ?side2 A15.out).mono ?_
     (case side1 => exact q26_)
     (case side2 => exact q21_)
     rintro e w26 ⟨rfl,hi,hb,hk⟩
     refine ⟨_,rfl,?_⟩
     have n0_:=Aside0.mk (KeepBut.trans q5_ hk (.inl rfl))
     have n1_:=Aside0.mk (hb)
     have n2_:=Aside0.mk (hi)
     have z_HO119:=fun (h0_:b 3 = true) => (show Kd.R Kd.string 9 w26 w.heap.size (fun _ => True) v118 y117 from by first | exact (Kd.R_mono (Kd.R_keep (IsS62.apart (show IsS62 w0 _ g s0_0 t116 from by repeat (first | (with_reducible first | exact HI0.out | apply IsS62.alloc | apply IsS62.drewN | apply IsS62.drew | apply IsS62.set_1) | exact HI0.out)) (by (with_reducible repeat (first | apply Kd.R_alloc | apply Kd.R_drewN | apply Kd.R_drew));exact (Q_HO119 h0_)) (by decide)) hk (fun _ h => h.2)) (fun _ h => h.1)) | exact Kd.R_mono (Kd.R_mono (Kd.R_keep (IsS62.apart (show IsS62 w0 _ g s0_0 t116 from by repeat (first | (with_reducible first | exact HI0.out | apply IsS62.alloc | apply IsS62.drewN | apply IsS62.drew | apply IsS62.set_1) | exact HI0.out)) (by (with_reducible repeat (first | apply Kd.R_alloc | apply Kd.R_drewN | apply Kd.R_drew));exact (Q_HO119 h0_)) (by decide)) hk (fun _ h => h.2)) (fun _ h => h.1)) (fun _ h_ => by first | trivial | exact h_ | exact h_.1))
     clear HK
     clear HB
     clear HI0
     have HK:=n0_
     have HB:=n1_
     have HI0:=n2_
     clear n0_ n1_ n2_
     (try clear hb)
     (try clear hb2)
     (try clear hk)
     (try clear hi)
     refine hK.out _ _ ⟨v118,adz_v118,m6_,(by rw [ha.out];exact putSel_upk 2 hb_ rfl rfl rfl),fun h0_ => absurd ((up_self b 5).symm.trans h0_) (by decide),q5_,q2_,z_HO119,Q_HA_HO119,fun _ => q4_,fun h0_ => absurd ((hoff 6 (by kernel_rfl)).symm.trans h0_) (by decide)⟩
    refine steps_cons ?_ ?_
    ·rintro b a w' ⟨v118,adz_v118,m6_,ha,Q_HI0,Q_HK,Q_HB,Q_HO119,Q_HA_HO119,Q_HI0_e5,Q_X6_⟩ hb_ hon hoff
     refine ⟨_,rfl,fun K hK => ?_⟩
     have e29:a.tmps[29]? = some (v118):=by rw [ha];exact putSel_on (e:=(3,29,v118)) 1 rfl rfl (hon 3 (by kernel_rfl)) rfl
     have e31:a.tmps[31]? = some (.int .i64 t120):=by rw [ha];exact putSel_on (e:=(5,31,.int .i64 t120)) 2 rfl rfl (hon 5 (by kernel_rfl)) rfl
     replace ha:=Aside0.mk ha
     have HK:=Aside0.mk Q_HK
     have HB:=Aside0.mk Q_HB
     have HO119:=Aside0.mk (Q_HO119 (hon 3 (by kernel_rfl)))
     have HA_HO119:=Aside0.mk (Q_HA_HO119 (hon 3 (by kernel_rfl)))
     have HI0:=Aside0.mk (Q_HI0_e5 (hon 5 (by kernel_rfl)))
     obtain ⟨c_,hv_⟩:=HA_HO119.out
     rw [hv_] at e29
     refine value_ (w1:=w') (v:=.pointer (some (adz_v118.add (t120).toNat))) (by rfl) rfl ?_ ?_
     ·go_simp
      (try simp only [i64_w])
      try rfl
     refine hK.out _ _ ⟨v118,adz_v118,(.pointer (some (adz_v118.add (t120).toNat))),(by rw [ha.out];exact putSel_upk 3 hb_ rfl rfl rfl),fun h0_ => absurd ((hon 5 (by kernel_rfl)).symm.trans h0_) (by decide),Q_HK,Q_HB,Q_HO119,Q_HA_HO119,Q_HI0_e5,fun _ => rfl⟩
    refine steps_cons ?_ ?_
    ·rintro b a w' ⟨v118,adz_v118,m6_,ha,Q_HI0,Q_HK,Q_HB,Q_HO119,Q_HA_HO119,Q_HI0_e5,Q_X6_⟩ hb_ hon hoff
     refine ⟨_,rfl,fun K hK => ?_⟩
     have e32:a.tmps[32]? = some (m6_):=by rw [ha];exact putSel_on (e:=(6,32,m6_)) 3 rfl rfl (hon 6 (by kernel_rfl)) rfl
     rw [Q_X6_ (hon 6 (by kernel_rfl))] at e32
     replace ha:=Aside0.mk ha
     have HK:=Aside0.mk Q_HK
     have HB:=Aside0.mk Q_HB
     have HO119:=Aside0.mk (Q_HO119 (hon 3 (by kernel_rfl)))
     have HA_HO119:=Aside0.mk (Q_HA_HO119 (hon 3 (by kernel_rfl)))
     have HI0:=Aside0.mk (Q_HI0_e5 (hon 5 (by kernel_rfl)))
     obtain ⟨c_,hv_⟩:=HA_HO119.out
     have hF_:=HO119.out
     rw [hv_] at hF_
     obtain ⟨ad_,ea_,hx_⟩:=Kd.at_string (Kd.R_reads' hF_).2.2 t120 (of_eq_true pi122) (of_eq_true qi122)
     cases ea_
     refine value_ (w1:=w') (v:=.string (rdOf ByteArray.empty y117 t120)) (by rfl) rfl ?_ ?_
     ·go_simp
      (try simp only [i64_w])
      try rfl
     refine hK.out _ _ ⟨v118,adz_v118,m6_,(by rw [ha.out];exact putSel_upk 4 hb_ rfl rfl rfl),fun h0_ => absurd ((hon 5 (by kernel_rfl)).symm.trans h0_) (by decide),Q_HK,Q_HB,Q_HO119,Q_HA_HO119,Q_HI0_e5,Q_X6_⟩
    refine steps_cons ?_ ?_
    ·rintro b a w' ⟨v118,adz_v118,m6_,ha,Q_HI0,Q_HK,Q_HB,Q_HO119,Q_HA_HO119,Q_HI0_e5,Q_X6_⟩ hb_ hon hoff
     refine ⟨_,rfl,fun K hK => ?_⟩
     have e28:a.tmps[28]? = some (.string (a1.extract 0 (t115:Int).toNat)):=by rw [ha];exact putSel_on (e:=(2,28,.string (a1.extract 0 (t115:Int).toNat))) 0 rfl rfl (hon 2 (by kernel_rfl)) rfl
     have e33:a.tmps[33]? = some (.string (rdOf ByteArray.empty y117 t120)):=by rw [ha];exact putSel_on (e:=(7,33,.string (rdOf ByteArray.empty y117 t120))) 4 rfl rfl (hon 7 (by kernel_rfl)) rfl
     replace ha:=Aside0.mk ha
     have HK:=Aside0.mk Q_HK
     have HB:=Aside0.mk Q_HB
     have HO119:=Aside0.mk (Q_HO119 (hon 3 (by kernel_rfl)))
     have HA_HO119:=Aside0.mk (Q_HA_HO119 (hon 3 (by kernel_rfl)))
     have HI0:=Aside0.mk (Q_HI0_e5 (hon 5 (by kernel_rfl)))
     refine value_ (w1:=w') (v:=.string ((a1.extract 0 (t115:Int).toNat) ++ (rdOf ByteArray.empty y117 t120))) (by rfl) rfl ?_ ?_
     ·go_simp
      (try simp only [i64_w])
      try rfl
     refine hK.out _ _ ⟨v118,adz_v118,m6_,(by rw [ha.out];exact putSel_upk 5 hb_ rfl rfl rfl),fun h0_ => absurd ((hon 5 (by kernel_rfl)).symm.trans h0_) (by decide),Q_HK,Q_HB,Q_HO119,Q_HA_HO119,Q_HI0_e5,Q_X6_⟩
    refine steps_cons ?_ ?_
    ·rintro b a w' ⟨v118,adz_v118,m6_,ha,Q_HI0,Q_HK,Q_HB,Q_HO119,Q_HA_HO119,Q_HI0_e5,Q_X6_⟩ hb_ hon hoff
     refine ⟨_,rfl,fun K hK => ?_⟩
     have e36:a.tmps[36]? = some (.int .i64 t115):=by rw [ha];exact (putSel_off rfl).trans rfl
     replace ha:=Aside0.mk ha
     have HK:=Aside0.mk Q_HK
     have HB:=Aside0.mk Q_HB
     refine value_ (w1:=w') (v:=.int .i64 ji19) (by rfl) rfl ?_ ?_
     ·go_simp
      (try simp only [i64_w])
      try rfl
     refine hK.out _ _ ⟨v118,adz_v118,m6_,(by rw [ha.out];exact putSel_upk 6 hb_ rfl rfl rfl),Q_HI0,Q_HK,Q_HB,Q_HO119,Q_HA_HO119,Q_HI0_e5,Q_X6_⟩
    refine steps_cons ?_ ?_
    ·rintro b a w' ⟨v118,adz_v118,m6_,ha,Q_HI0,Q_HK,Q_HB,Q_HO119,Q_HA_HO119,Q_HI0_e5,Q_X6_⟩ hb_ hon hoff
     refine ⟨_,rfl,fun K hK => ?_⟩
     have e35:a.tmps[35]? = some (.string a1):=by rw [ha];exact (putSel_off rfl).trans rfl
     have e37:a.tmps[37]? = some (.int .i64 ji19):=by rw [ha];exact putSel_on (e:=(11,37,.int .i64 ji19)) 6 rfl rfl (hon 11 (by kernel_rfl)) rfl
     replace ha:=Aside0.mk ha
     have HK:=Aside0.mk Q_HK
     have HB:=Aside0.mk Q_HB
     refine value_ (w1:=w') (v:=.string (a1.extract ((ji19):Int).toNat a1.size)) (by rfl) rfl ?_ ?_
     ·go_simp
      (try simp only [i64_w])
      try rfl
     refine hK.out _ _ ⟨v118,adz_v118,m6_,(by rw [ha.out];exact putSel_upk 7 hb_ rfl rfl rfl),Q_HI0,Q_HK,Q_HB,Q_HO119,Q_HA_HO119,Q_HI0_e5,Q_X6_⟩
    refine steps_cons ?_ ?_
    ·rintro b a w' ⟨v118,adz_v118,m6_,ha,Q_HI0,Q_HK,Q_HB,Q_HO119,Q_HA_HO119,Q_HI0_e5,Q_X6_⟩ hb_ hon hoff
     refine ⟨_,rfl,fun K hK => ?_⟩
     have e34:a.tmps[34]? = some (.string ((a1.extract 0 (t115:Int).toNat) ++ (rdOf ByteArray.empty y117 t120))):=by rw [ha];exact putSel_on (e:=(8,34,.string ((a1.extract 0 (t115:Int).toNat) ++ (rdOf ByteArray.empty y117 t120)))) 5 rfl rfl (hon 8 (by kernel_rfl)) rfl
     have e38:a.tmps[38]? = some (.string (a1.extract ((ji19):Int).toNat a1.size)):=by rw [ha];exact putSel_on (e:=(12,38,.string (a1.extract ((ji19):Int).toNat a1.size))) 7 rfl rfl (hon 12 (by kernel_rfl)) rfl
     replace ha:=Aside0.mk ha
     have HK:=Aside0.mk Q_HK
     have HB:=Aside0.mk Q_HB
     have HO119:=Aside0.mk (Q_HO119 (hon 3 (by kernel_rfl)))
     have HA_HO119:=Aside0.mk (Q_HA_HO119 (hon 3 (by kernel_rfl)))
     have HI0:=Aside0.mk (Q_HI0_e5 (hon 5 (by kernel_rfl)))
     refine value_ (w1:=w') (v:=.string (((a1.extract 0 (t115:Int).toNat) ++ (rdOf ByteArray.empty y117 t120)) ++ (a1.extract ((ji19):Int).toNat a1.size))) (by rfl) rfl ?_ ?_
     ·go_simp
      (try simp only [i64_w])
      try rfl
     refine hK.out _ _ ⟨v118,adz_v118,m6_,(by rw [ha.out];exact putSel_upk 8 hb_ rfl rfl rfl),fun h0_ => absurd ((hon 5 (by kernel_rfl)).symm.trans h0_) (by decide),Q_HK,Q_HB,Q_HO119,Q_HA_HO119,Q_HI0_e5,Q_X6_⟩
    refine steps_cons ?_ ?_
    ·rintro b a w' ⟨v118,adz_v118,m6_,ha,Q_HI0,Q_HK,Q_HB,Q_HO119,Q_HA_HO119,Q_HI0_e5,Q_X6_⟩ hb_ hon hoff
     refine ⟨_,rfl,fun K hK => ?_⟩
     have e39:a.tmps[39]? = some (.string (((a1.extract 0 (t115:Int).toNat) ++ (rdOf ByteArray.empty y117 t120)) ++ (a1.extract ((ji19):Int).toNat a1.size))):=by rw [ha];exact putSel_on (e:=(13,39,.string (((a1.extract 0 (t115:Int).toNat) ++ (rdOf ByteArray.empty y117 t120)) ++ (a1.extract ((ji19):Int).toNat a1.size)))) 8 rfl rfl (hon 13 (by kernel_rfl)) rfl
     replace ha:=Aside0.mk ha
     have HK:=Aside0.mk Q_HK
     have HB:=Aside0.mk Q_HB
     have HO119:=Aside0.mk (Q_HO119 (hon 3 (by kernel_rfl)))
     have HA_HO119:=Aside0.mk (Q_HA_HO119 (hon 3 (by kernel_rfl)))
     have HI0:=Aside0.mk (Q_HI0_e5 (hon 5 (by kernel_rfl)))
     refine value_ (w1:=w') (v:=.string (((a1.extract 0 (t115:Int).toNat) ++ (rdOf ByteArray.empty y117 t120)) ++ (a1.extract ((ji19):Int).toNat a1.size))) (by rfl) rfl ?_ ?_
     ·go_simp
      (try simp only [i64_w])
      try rfl
     refine hK.out _ _ ⟨v118,adz_v118,m6_,(by rw [ha.out];exact putSel_upk 9 hb_ rfl rfl rfl),fun h0_ => absurd ((hon 5 (by kernel_rfl)).symm.trans h0_) (by decide),Q_HK,Q_HB,Q_HO119,Q_HA_HO119,Q_HI0_e5,Q_X6_⟩
    exact steps_nil
   rintro b a w30 hall ⟨v118,adz_v118,m6_,ha,Q_HI0,Q_HK,Q_HB,Q_HO119,Q_HA_HO119,Q_HI0_e5,Q_X6_⟩
   clear HB HI0 HK
   have hb2_:=hall 2 (by kernel_rfl)
   have hb3_:=hall 3 (by kernel_rfl)
   have hb5_:=hall 5 (by kernel_rfl)
   have hb6_:=hall 6 (by kernel_rfl)
   have hb7_:=hall 7 (by kernel_rfl)
   have hb8_:=hall 8 (by kernel_rfl)
   have hb11_:=hall 11 (by kernel_rfl)
   have hb12_:=hall 12 (by kernel_rfl)
   have hb13_:=hall 13 (by kernel_rfl)
   have hb14_:=hall 14 (by kernel_rfl)
   subst ha
   obtain rfl:=Q_X6_ hb6_
   simp only [putSel,hb2_,hb3_,hb5_,hb6_,hb7_,hb8_,hb11_,hb12_,hb13_,hb14_,if_true,Act.put,List.setIfInBounds_toArray,List.set_cons_zero,List.set_cons_succ]
   clear Q_HI0
   have HK:=Aside0.mk Q_HK
   clear Q_HK
   have HB:=Aside0.mk Q_HB
   clear Q_HB
   have HO119:=Aside0.mk (Q_HO119 hb3_)
   clear Q_HO119
   have HA_HO119:=Aside0.mk (Q_HA_HO119 hb3_)
   clear Q_HA_HO119
   have HI0:=Aside0.mk (Q_HI0_e5 hb5_)
   clear Q_HI0_e5
   clear hall hb2_ hb3_ hb5_ hb6_ hb7_ hb8_ hb11_ hb12_ hb13_ hb14_
   obtain ⟨co31,eo31⟩:=HA_HO119.out
   clear HA_HO119
   subst eo31
   try go_wp2
   go_ret
   exact ⟨by first | rfl | (simp [errW_none,errW_some] <;> rfl) | (simp only [← hji19];first | rfl | (simp [errW_none,errW_some] <;> rfl)) | (simp [*,errW_none,errW_some] <;> rfl) | (exfalso;simp_all;done),q4_,q2_,q5_⟩
  rw [if_neg c11] at H
  have c11b0:decide (0 < (a1.size:Int)) = false:=decide_eq_false c11
  have c11b1:decide (0 < a1.size) = false:=decide_eq_false (by omega)
  clear c11
  simp only [Option.some.injEq,Prod.mk.injEq] at H
  obtain ⟨rfl,rfl⟩:=H
  go_enter Tryd.func28,Tryd.ntmps28
  go_wp2_with (first | ((with_reducible refine gate_callee (f:=30) rfl ?_);refine goesL_ (some 7) rfl rfl Tryd.func30 (by kernel_rfl) rfl #[.pointer (some ⟨g,0,none⟩),.int .i64 6] rfl q7_ ?_;(with_reducible refine (spec_l1Rd_below.calls g s0_0 s0_1 6 t111 t112 w0 _ ?side1 ?side2 A3.out).mono ?_);(case side1 => exact q26_);(case side2 => exact q21_);rintro e w32 ⟨rfl,hi,hb,hk⟩;refine ⟨_,rfl,?_⟩;have n0_:=Aside0.mk (KeepBut.trans q5_ hk (.inl rfl));have n1_:=Aside0.mk (hb);have n2_:=Aside0.mk (hi);clear HK;clear HB;clear HI0;have HK:=n0_;have HB:=n1_;have HI0:=n2_;clear n0_ n1_ n2_;(try clear hb);(try clear hk);(try clear hi)))
  go_ret
  exact ⟨q10_,q4_,q2_,q5_⟩
 rw [if_neg c10] at H
 have c10b0:(t111 == 2) = false:=beq_eq_false_iff_ne.mpr c10
 have c10b1:(t111 != 2) = true:=bne_iff_ne.mpr c10
 by_cases c33:t111 = 3
 ·rw [if_pos c33] at H
  have c33b0:(t111 == 3) = true:=beq_iff_eq.mpr c33
  have c33b1:(t111 != 3) = false:=bne_eq_false_iff_eq.mpr c33
  clear c33
  obtain ⟨y123,hy123⟩:∃ y_:List ByteArray,y_ = (([(⟨#[32]⟩:ByteArray),(⟨#[48]⟩:ByteArray),(⟨#[120]⟩:ByteArray)]:List ByteArray)):=⟨_,rfl⟩
  replace H:((spec_l1Rd_below.f s0_0 t112 3).bind fun bt126 => (if 0 ≤ bt126.1 then (if bt126.1 < (y123.length:Int) then (if a1.size + (rdOf ByteArray.empty y123 bt126.1).size ≤ 9223372036854775807 then (some (a1 ++ (rdOf ByteArray.empty y123 bt126.1),bt126.2)) else (none)) else (none)) else (none))) = some (r1,r2):=by first | (rw [hy123];exact H) | exact H
  have Ny123:=Aside0.mk hy123
  clear hy123
  replace H:=Option.bind_eq_some_iff.mp H
  obtain ⟨⟨t126,t127⟩,A340,H⟩:=H
  try dsimp -simprocs -eta only at H
  have A34:=Aside0.mk A340
  clear A340
  by_cases c35:0 ≤ t126
  rotate_left
  ·rw [if_neg c35] at H
   exact absurd H (by simp)
  rw [if_pos c35] at H
  have c35b0:=decide_eq_true c35
  clear c35
  by_cases c36:t126 < (y123.length:Int)
  rotate_left
  ·rw [if_neg c36] at H
   exact absurd H (by simp)
  rw [if_pos c36] at H
  have c36b0:=decide_eq_true c36
  clear c36
  by_cases c37:a1.size + (rdOf ByteArray.empty y123 t126).size ≤ 9223372036854775807
  rotate_left
  ·rw [if_neg c37] at H
   exact absurd H (by simp)
  rw [if_pos c37] at H
  have c37b0:=eq_true c37
  have c37b1:=decide_eq_true c37
  try have c37b2:(9223372036854775807 < a1.size + (rdOf ByteArray.empty y123 t126).size) = False:=eq_false (Nat.not_lt.2 c37)
  simp only [Option.some.injEq,Prod.mk.injEq] at H
  obtain ⟨rfl,rfl⟩:=H
  go_enter Tryd.func28,Tryd.ntmps28
  go_wp2_with (first | ((with_reducible refine gate_callee (f:=30) rfl ?_);refine goesL_ (some 7) rfl rfl Tryd.func30 (by kernel_rfl) rfl #[.pointer (some ⟨g,0,none⟩),.int .i64 6] rfl q7_ ?_;(with_reducible refine (spec_l1Rd_below.calls g s0_0 s0_1 6 t111 t112 w0 _ ?side1 ?side2 A3.out).mono ?_);(case side1 => exact q26_);(case side2 => exact q21_);rintro e w38 ⟨rfl,hi,hb,hk⟩;refine ⟨_,rfl,?_⟩;have n0_:=Aside0.mk (KeepBut.trans q5_ hk (.inl rfl));have n1_:=Aside0.mk (hb);have n2_:=Aside0.mk (hi);clear HK;clear HB;clear HI0;have HK:=n0_;have HB:=n1_;have HI0:=n2_;clear n0_ n1_ n2_;(try clear hb);(try clear hk);(try clear hi)) | ((with_reducible refine gate_dst (N:=43) rfl ?_);refine Kd.R_lit Kd.string _ 9 ?hg (N:=43) ?hd (xs:=([(⟨#[32]⟩:ByteArray),(⟨#[48]⟩:ByteArray),(⟨#[120]⟩:ByteArray)]:List ByteArray)) (inner:=[.string (⟨#[32]⟩:ByteArray),.string (⟨#[48]⟩:ByteArray),.string (⟨#[120]⟩:ByteArray)]) (ok:=fun _ => True) (okp:=fun _ => True) ?hr ?hp (fun _ hk => hk) trivial (Below.refl _ _) (Nat.le_refl _) (by simp) ?_;(case hd => rfl);(case hg => rfl);(case hr => exact q27_);(case hp => exact (Reps.one (show Kd.M Kd.string _ _ _ (⟨#[32]⟩:ByteArray) [.string (⟨#[32]⟩:ByteArray)] from rfl) (Reps.one (show Kd.M Kd.string _ _ _ (⟨#[48]⟩:ByteArray) [.string (⟨#[48]⟩:ByteArray)] from rfl) (Reps.one (show Kd.M Kd.string _ _ _ (⟨#[120]⟩:ByteArray) [.string (⟨#[120]⟩:ByteArray)] from rfl) (Reps.none _ _)))));intro v124 w39 ho40 hb hg_ hnew_;clear hg_ hnew_;(first | rw [← Ny123.out] at ho40 | (simp only [Int.reduceToNat] at ho40;rw [← Ny123.out] at ho40));have n0_:=Aside0.mk (Kd.R_lower ho40 (keep_size (w:=w) (g:=g) (row:=none) q5_));have n1_:=Aside0.mk (IsS62.below q4_ hb);have n2_:=Aside0.mk (KeepBut.trans q5_ (KeepBut.of_below hb g none) (.inl rfl));have n3_:=Aside0.mk (below_step q2_ hb);clear HI0;clear HK;clear HB;have HO125:=n0_;have HI0:=n1_;have HK:=n2_;have HB:=n3_;clear n0_ n1_ n2_ n3_;clear hb ho40) | ((with_reducible refine gate_callee (f:=30) rfl ?_);refine goesL_ (some 45) rfl rfl Tryd.func30 (by kernel_rfl) rfl #[.pointer (some ⟨g,0,none⟩),.int .i64 3] rfl q7_ ?_;(with_reducible refine (spec_l1Rd_below.calls g s0_0 t112 3 t126 t127 w0 _ ?side1 ?side2 A34.out).mono ?_);(case side1 => exact q26_);(case side2 => exact q21_);rintro e w41 ⟨rfl,hi,hb,hk⟩;refine ⟨_,rfl,?_⟩;have n0_:=Aside0.mk (Kd.R_mono (Kd.R_keep (IsS62.apart (show IsS62 w0 _ g s0_0 t112 from by repeat (first | (with_reducible first | exact HI0.out | apply IsS62.alloc | apply IsS62.drewN | apply IsS62.drew | apply IsS62.set_1) | exact HI0.out)) (by (with_reducible repeat (first | apply Kd.R_alloc | apply Kd.R_drewN | apply Kd.R_drew));exact HO125.out) (by decide)) hk (fun _ h => h.2)) (fun _ h => h.1));have n1_:=Aside0.mk (KeepBut.trans q5_ hk (.inl rfl));have n2_:=Aside0.mk (hb);have n3_:=Aside0.mk (hi);clear HO125;clear HK;clear HB;clear HI0;have HO125:=n0_;have HK:=n1_;have HB:=n2_;have HI0:=n3_;clear n0_ n1_ n2_ n3_;(try clear hb);(try clear hk);(try clear hi);obtain ⟨Ao42,co42,eo42⟩:=Kd.R_slice HO125.out;subst eo42;have p128:0 ≤ (t126:Int):=of_decide_eq_true q18_;have q128:t126 < (y123.length:Int):=of_decide_eq_true q18_;obtain ⟨ad128,e128,hx128_0⟩:=Kd.at_string (Kd.R_reads' HO125.out).2.2 t126 p128 q128;cases e128;replace p128:=eq_true p128;replace q128:=eq_true q128))
  go_ret
  exact ⟨q10_,q4_,q2_,q5_⟩
 rw [if_neg c33] at H
 have c33b0:(t111 == 3) = false:=beq_eq_false_iff_ne.mpr c33
 have c33b1:(t111 != 3) = true:=bne_iff_ne.mpr c33
 simp only [Option.some.injEq,Prod.mk.injEq] at H
 obtain ⟨rfl,rfl⟩:=H
 go_enter Tryd.func28,Tryd.ntmps28
 go_wp2_with (first | ((with_reducible refine gate_callee (f:=30) rfl ?_);refine goesL_ (some 7) rfl rfl Tryd.func30 (by kernel_rfl) rfl #[.pointer (some ⟨g,0,none⟩),.int .i64 6] rfl q7_ ?_;(with_reducible refine (spec_l1Rd_below.calls g s0_0 s0_1 6 t111 t112 w0 _ ?side1 ?side2 A3.out).mono ?_);(case side1 => exact q26_);(case side2 => exact q21_);rintro e w43 ⟨rfl,hi,hb,hk⟩;refine ⟨_,rfl,?_⟩;have n0_:=Aside0.mk (KeepBut.trans q5_ hk (.inl rfl));have n1_:=Aside0.mk (hb);have n2_:=Aside0.mk (hi);clear HK;clear HB;clear HI0;have HK:=n0_;have HB:=n1_;have HI0:=n2_;clear n0_ n1_ n2_;(try clear hb);(try clear hk);(try clear hi)))
 go_ret
 exact ⟨q10_,q4_,q2_,q5_⟩
end Go.Proofs.YtoiiaklmjpiejaaDoor.QFnArgs
