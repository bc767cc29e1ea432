/- The machine's side of a law,written by a program of this session for this claim. -/
import Derived.Test.YtoiiaklmjpiejaaDoorSQq
import Derived.Test.YtoiiaklmjpiejaaDoorSQFnSymTextsx0
namespace Go.Proofs.YtoiiaklmjpiejaaDoor.QFnSymTexts
open Go.Proofs.YtoiiaklmjpiejaaDoor.Qq
open Go.RowKit Go.Proofs.YtoiiaklmjpiejaaDoor.LibX Go.Proofs.YtoiiaklmjpiejaaDoor.LibE Go.Proofs.YtoiiaklmjpiejaaDoor.LibCB Go.Proofs.YtoiiaklmjpiejaaDoor.LibG Go.Proofs.YtoiiaklmjpiejaaDoor.LibSY Go.Proofs.YtoiiaklmjpiejaaDoorW.PrintWords Go.Proofs.YtoiiaklmjpiejaaDoorW.PrintLast Go.Proofs.YtoiiaklmjpiejaaDoorW.PrintMore
attribute [local go_sem] max2_int min2_int max_two min_two max_three min_three max_four min_four   -- for this text's walks alone
set_option maxHeartbeats 8000000
set_option maxRecDepth 100000
set_option linter.unusedVariables false
set_option linter.unusedSimpArgs false
def laws_big.f (l0:List Int):Option (Bool):=some (decide ((l0.length:Int) > 1048576))
theorem laws_big.calls (A0:Option Addr) (c0:Nat) (l0:List Int) (r:Bool) (w:World) (hr0:Kd.C (Kd.int .u8) w A0 l0.length l0) (hc0:l0.length ≤ c0) (h:laws_big.f l0 = some r) :
  Calls Tryd.prog 6 #[.slice A0 l0.length c0] w fun e w' => e = .returned (.bool r) ∧ Drawn0 w w':=by
 have HR0:=Aside0.mk hr0
 have HC0:=Aside0.mk hc0
 clear hr0 hc0
 have H:(some (decide ((l0.length:Int) > 1048576))) = some r:=h
 clear h
 obtain rfl:=Option.some.inj H
 go_enter Tryd.func6,Tryd.ntmps6
 go_wp2
 go_ret
 exact ⟨q26_,q34_⟩
/-- A state of type 62 at block g of W;what its slices lead to came in by w0. -/
def IsS62 (w0 W:World) (g:Nat) (f0:List Int) (f1:Int):Prop:=∃ A0 c0,W.heap[g]? = some (.cells #[.slice A0 f0.length c0,.int .i64 f1] 62 (0,0)) ∧ w0.heap.size ≤ g ∧ Kd.C (Kd.int .u8) w0 A0 f0.length f0
theorem IsS62.grown {w0 W:World} {g:Nat} {f0:List Int} {f1:Int} {W1:World} {row:Option Nat} (h:IsS62 w0 W g f0 f1) (hw:W.grownBy W1 row) (hne:some g ≠ row):IsS62 w0 W1 g f0 f1:=by
 obtain ⟨A0,c0,hb,hg,hr0⟩:=h
 exact ⟨A0,c0,blk_grown hb hw hne,hg,hr0⟩
theorem IsS62.below {w0 W:World} {g:Nat} {f0:List Int} {f1:Int} {W1:World} (h:IsS62 w0 W g f0 f1) (hw:Below W.heap.size W W1):IsS62 w0 W1 g f0 f1:=h.grown (grown_of_below hw none) (by simp)
theorem IsS62.alloc {w0 W:World} {g:Nat} {f0:List Int} {f1:Int} (h:IsS62 w0 W g f0 f1) (o:Obj):IsS62 w0 (W.alloc o) g f0 f1:=h.below (below_alloc (Below.refl _ _) o)
theorem IsS62.drewN {w0 W:World} {g:Nat} {f0:List Int} {f1:Int} (h:IsS62 w0 W g f0 f1) (m:Nat):IsS62 w0 (W.drewN m) g f0 f1:=h
theorem IsS62.drew {w0 W:World} {g:Nat} {f0:List Int} {f1:Int} (h:IsS62 w0 W g f0 f1):IsS62 w0 W.drew g f0 f1:=h
theorem IsS62.apart {w0 W:World} {g:Nat} {f0:List Int} {f1:Int} {α:Type} {d:Kd α} {e:Nat} {base:Nat} {ok:Nat → Prop} {v:Value} {xs:List α} (h:IsS62 w0 W g f0 f1) (ho:d.R e W base ok v xs) (ht:∀ q,q ∈ e :: d.E → q ≠ 62):d.R e W base (fun k => ok k ∧ k ≠ g) v xs:=by
 obtain ⟨A0,c0,hb,hg,hr0⟩:=h
 exact Kd.R_types ho hb ht
theorem IsS62.own_ne {w0 W:World} {g:Nat} {f0:List Int} {f1:Int} {α:Type} {d:Kd α} {e:Nat} {base:Nat} {ok:Nat → Prop} {v:Value} {xs:List α} (h:IsS62 w0 W g f0 f1) (ho:d.R e W base ok v xs) (ht:e ≠ 62):some g ≠ v.ownBlock:=by
 obtain ⟨A0,c0,hb,hg,hr0⟩:=h
 exact Kd.R_ne ho hb ht
theorem IsS62.ge {w0 W:World} {g:Nat} {f0:List Int} {f1:Int} (h:IsS62 w0 W g f0 f1):w0.heap.size ≤ g:=by
 obtain ⟨A0,c0,hb,hg,hr0⟩:=h
 exact hg
theorem cellS62_0 {W:World} {g:Nat} {A0:Option Addr} {c0:Nat} {f0:List Int} {f1:Int} (h:W.heap[g]? = some (.cells #[.slice A0 f0.length c0,.int .i64 f1] 62 (0,0))):W.cell? ⟨g,0,none⟩ = some (.slice A0 f0.length c0):=(blk_cell h 0).trans rfl
theorem cellS62_1 {W:World} {g:Nat} {A0:Option Addr} {c0:Nat} {f0:List Int} {f1:Int} (h:W.heap[g]? = some (.cells #[.slice A0 f0.length c0,.int .i64 f1] 62 (0,0))):W.cell? ⟨g,1,none⟩ = some (.int .i64 f1):=(blk_cell h 1).trans rfl
theorem IsS62.set_1 {w0 W:World} {g:Nat} {f0:List Int} {f1:Int} (h:IsS62 w0 W g f0 f1) (x:Int):IsS62 w0 (W.setCell ⟨g,1,none⟩ (.int .i64 x)) g f0 x:=by
 obtain ⟨A0,c0,hb,hg,hr0⟩:=h
 exact ⟨A0,c0,by simpa using blk_set hb 1 (.int .i64 x),hg,hr0⟩
def spec_l1Open.f (l0:List Int):Option (List Int × Int):=some (l0,0)
theorem spec_l1Open.calls (A0:Option Addr) (c0:Nat) (l0:List Int) (r1:List Int) (r2:Int) (w0 w:World) (hB:Below w0.heap.size w0 w) (hr0:Kd.C (Kd.int .u8) w0 A0 l0.length l0) (hc0:l0.length ≤ c0) (h:spec_l1Open.f l0 = some (r1,r2)) :
  Calls Tryd.prog 26 #[.slice A0 l0.length c0] w fun e w' => ∃ g_:Nat,e = .returned (.pointer (some ⟨g_,0,none⟩)) ∧ IsS62 w0 w' g_ r1 r2 ∧ Below w0.heap.size w0 w' ∧ Below w.heap.size w w':=by
 have hu62:=Tryd.underlying62
 have HR0:=Aside0.mk hr0
 have HC0:=Aside0.mk hc0
 clear hr0 hc0
 have HBW:=Aside0.mk (Below.refl w.heap.size w)
 have HW0:=Aside0.mk hB.size
 have HB:=Aside0.mk hB
 clear hB
 have H:(some (l0,0)) = some (r1,r2):=h
 clear h
 simp only [Option.some.injEq,Prod.mk.injEq] at H
 obtain ⟨rfl,rfl⟩:=H
 go_enter Tryd.func26,Tryd.ntmps26
 go_wp2_with (first | ((with_reducible refine gate_dst (N:=5) rfl ?_);refine box_event ?hg (N:=5) ?hd (cs:=#[.slice A0 l0.length c0,.int .i64 0]) (t:=62) ?hr ?_;(case hd => rfl);(case hg => rfl);(case hr => exact q51_);intro gb101 hg w2 hbox hb;have n0_:=Aside0.mk (below_step HBW.out hb);have n1_:=Aside0.mk (below_step q20_ hb);have n2_:=Aside0.mk (hbox);have n3_:=Aside0.mk ((q9_:w.heap.size ≤ gb101));have n4_:=Aside0.mk ((Nat.le_trans HW0.out (q9_:w.heap.size ≤ gb101):w0.heap.size ≤ gb101));clear HBW;clear HB;have HBW:=n0_;have HB:=n1_;have BK101:=n2_;have GW101:=n3_;have GE101:=n4_;clear n0_ n1_ n2_ n3_ n4_;clear hb hbox hg))
 go_ret
 exact ⟨_,rfl,(show IsS62 w0 _ gb101 l0 0 from ⟨_,_,by (with_reducible repeat (first | refine blk_drewN ?_ _ | refine blk_drew ?_ | refine blk_alloc ?_ _));exact BK101.out,GE101.out,HR0.out⟩),by repeat (first | (with_reducible first | exact HB.out | apply below_alloc | apply pw_below_drewN | apply below_drew1 | refine below_set ?_ GE101.out) | exact HB.out),by repeat (first | (with_reducible first | exact HBW.out | apply below_alloc | apply pw_below_drewN | apply below_drew1 | refine below_set ?_ GW101.out) | exact HBW.out)⟩
def spec_l1Rd_next.f (s0_0:List Int) (s0_1:Int):Option (Int × Int):=if s0_1 ≥ (s0_0.length:Int) then (some (0,s0_1)) else (if 0 ≤ (wrap64 ((wrap64 (s0_1 + 1)) - 1)) then (if (wrap64 ((wrap64 (s0_1 + 1)) - 1)) < (s0_0.length:Int) then (some (wrap64 (rd s0_0 (wrap64 ((wrap64 (s0_1 + 1)) - 1))),wrap64 (s0_1 + 1))) else (none)) else (none))
theorem spec_l1Rd_next.calls (g:Nat) (s0_0:List Int) (s0_1:Int) (r1:Int) (r2:Int) (w0 w:World) (hI:IsS62 w0 w g s0_0 s0_1) (hB:Below w0.heap.size w0 w) (h:spec_l1Rd_next.f s0_0 s0_1 = some (r1,r2)) :
  Calls Tryd.prog 54 #[.pointer (some ⟨g,0,none⟩)] w fun e w' => e = .returned (.int .i64 r1) ∧ IsS62 w0 w' g s0_0 r2 ∧ Below w0.heap.size w0 w' ∧ KeepBut w w' g none:=by
 have HI0:=Aside0.mk hI
 have HK:=Aside0.mk (KeepBut.refl w g none)
 have HL:=Aside0.mk hB.size
 clear hI
 have HW0:=Aside0.mk hB.size
 have HB:=Aside0.mk hB
 clear hB
 have H:=h;unfold spec_l1Rd_next.f at H
 clear h
 by_cases c2:s0_1 ≥ (s0_0.length:Int)
 ·rw [if_pos c2] at H
  have c2b0:decide ((s0_0.length:Int) ≤ s0_1) = true:=decide_eq_true c2
  clear c2
  simp only [Option.some.injEq,Prod.mk.injEq] at H
  obtain ⟨rfl,rfl⟩:=H
  obtain ⟨ASz3_0,cSz3_0,HGz3,hgz3,HSz3_0⟩:=HI0.out
  have hcz3_0:=cellS62_0 HGz3
  have hcz3_1:=cellS62_1 HGz3
  have hfz3_1:=blk_frozen HGz3 1
  clear HGz3 hgz3
  go_enter Tryd.func54,Tryd.ntmps54
  go_wp2
  repeat (go_quiet (fail);try go_wp2)
  go_ret
  exact ⟨q21_,q16_,q7_,q17_⟩
 rw [if_neg c2] at H
 have c2b0:decide ((s0_0.length:Int) ≤ s0_1) = false:=decide_eq_false c2
 clear c2
 obtain ⟨ji4,hji4⟩:∃ j_:Int,(wrap64 ((wrap64 (s0_1 + 1)) - 1)) = j_:=⟨_,rfl⟩
 (first | rewrite [hji4] at H | simp only [hji4] at H)
 have hji4w:(IntKind.i64.wrap ((wrap64 (s0_1 + 1)) - 1)) = ji4:=(i64_w _).trans hji4
 by_cases c5:0 ≤ (ji4)
 rotate_left
 ·rw [if_neg c5] at H
  exact absurd H (by simp)
 rw [if_pos c5] at H
 have c5b0:=decide_eq_true c5
 clear c5
 by_cases c6:(ji4) < (s0_0.length:Int)
 rotate_left
 ·rw [if_neg c6] at H
  exact absurd H (by simp)
 rw [if_pos c6] at H
 have c6b0:=decide_eq_true c6
 clear c6
 simp only [Option.some.injEq,Prod.mk.injEq] at H
 obtain ⟨rfl,rfl⟩:=H
 obtain ⟨ASz7_0,cSz7_0,HGz7,hgz7,HSz7_0⟩:=HI0.out
 have hcz7_0:=cellS62_0 HGz7
 have hcz7_1:=cellS62_1 HGz7
 have hfz7_1:=blk_frozen HGz7 1
 clear HGz7 hgz7
 have p102:0 ≤ ((ji4):Int):=of_decide_eq_true q36_
 have q102:(ji4) < (s0_0.length:Int):=of_decide_eq_true q36_
 obtain ⟨ad102,e102,hx102_0⟩:=Kd.at_int HSz7_0 (ji4) p102 q102
 cases e102
 have hn102_0:ad102.block ≠ g:=Nat.ne_of_lt (Nat.lt_of_lt_of_le (by have:=World.block_lt_of_cell? _ _ hx102_0;first | rwa [add_block] at this | exact this) (IsS62.ge HI0.out))
 replace hx102_0:=pw_cell_below HB.out hx102_0
 replace hx102_0:=(cell_far (p:=⟨g,1,none⟩) (by first | (rw [add_block];exact hn102_0) | (show (Addr.add _ _).block ≠ _;rw [add_block];exact hn102_0) | exact hn102_0) (.int .i64 (wrap64 (s0_1 + 1)))).trans hx102_0
 (try have hy102_0:=fun (n_:Nat) => (show (((w.drewN n_).setCell ⟨g,1,none⟩ (.int .i64 (wrap64 (s0_1 + 1))))).cell? _ = some _ from hx102_0))
 clear hn102_0
 replace p102:=eq_true p102
 replace q102:=eq_true q102
 go_enter Tryd.func54,Tryd.ntmps54
 go_wp2
 repeat (go_quiet (fail);try go_wp2)
 go_ret
 exact ⟨by first | rfl | (simp [errW_none,errW_some] <;> rfl) | (simp only [← hji4];first | rfl | (simp [errW_none,errW_some] <;> rfl)) | (simp [*,errW_none,errW_some] <;> rfl) | (exfalso;simp_all;done),q16_,q7_,q17_⟩
def spec_l1Rd_below.f (s0_0:List Int) (s0_1:Int) (a1:Int):Option (Int × Int):=if a1 ≤ 1 then (some (0,s0_1)) else (if a1 ≤ 256 then ((spec_l1Rd_next.f s0_0 s0_1).bind fun bt103 => (if a1 = 0 then (none) else (some (Int.tmod bt103.1 a1,bt103.2)))) else ((spec_l1Rd_next.f s0_0 s0_1).bind fun bt105 => ((spec_l1Rd_next.f s0_0 bt105.2).bind fun bt107 => (if a1 = 0 then (none) else (some (Int.tmod (wrap64 ((wrap64 (bt105.1 * 256)) + bt107.1)) a1,bt107.2))))))
theorem spec_l1Rd_below.calls (g:Nat) (s0_0:List Int) (s0_1:Int) (a1:Int) (r1:Int) (r2:Int) (w0 w:World) (hI:IsS62 w0 w g s0_0 s0_1) (hB:Below w0.heap.size w0 w) (h:spec_l1Rd_below.f s0_0 s0_1 a1 = some (r1,r2)) :
  Calls Tryd.prog 30 #[.pointer (some ⟨g,0,none⟩),.int .i64 a1] w fun e w' => e = .returned (.int .i64 r1) ∧ IsS62 w0 w' g s0_0 r2 ∧ Below w0.heap.size w0 w' ∧ KeepBut w w' g none:=by
 have HI0:=Aside0.mk hI
 have HK:=Aside0.mk (KeepBut.refl w g none)
 have HL:=Aside0.mk hB.size
 clear hI
 have HW0:=Aside0.mk hB.size
 have HB:=Aside0.mk hB
 clear hB
 have H:=h;unfold spec_l1Rd_below.f at H
 clear h
 by_cases c3:a1 ≤ 1
 ·rw [if_pos c3] at H
  have c3b0:=decide_eq_true c3
  clear c3
  simp only [Option.some.injEq,Prod.mk.injEq] at H
  obtain ⟨rfl,rfl⟩:=H
  go_enter Tryd.func30,Tryd.ntmps30
  go_wp2
  go_ret
  exact ⟨q21_,q16_,q7_,q17_⟩
 rw [if_neg c3] at H
 have c3b0:=decide_eq_false c3
 clear c3
 by_cases c4:a1 ≤ 256
 ·rw [if_pos c4] at H
  have c4b0:=decide_eq_true c4
  clear c4
  replace H:=Option.bind_eq_some_iff.mp H
  obtain ⟨⟨t103,t104⟩,A50,H⟩:=H
  try dsimp -simprocs -eta only at H
  have A5:=Aside0.mk A50
  clear A50
  by_cases c6:a1 = 0
  ·rw [if_pos c6] at H
   exact absurd H (by simp)
  rw [if_neg c6] at H
  have c6b0:(a1 == 0) = false:=beq_eq_false_iff_ne.mpr c6
  have c6b1:(a1 != 0) = true:=bne_iff_ne.mpr c6
  simp only [Option.some.injEq,Prod.mk.injEq] at H
  obtain ⟨rfl,rfl⟩:=H
  go_enter Tryd.func30,Tryd.ntmps30
  go_wp2_with (first | ((with_reducible refine gate_callee (f:=54) rfl ?_);refine goesL_ (some 11) rfl rfl Tryd.func54 (by kernel_rfl) rfl #[.pointer (some ⟨g,0,none⟩)] rfl q19_ ?_;(with_reducible refine (spec_l1Rd_next.calls g s0_0 s0_1 t103 t104 w0 _ ?side1 ?side2 A5.out).mono ?_);(case side1 => exact q49_);(case side2 => exact q40_);rintro e w7 ⟨rfl,hi,hb,hk⟩;refine ⟨_,rfl,?_⟩;have n0_:=Aside0.mk (KeepBut.trans q17_ hk (.inl rfl));have n1_:=Aside0.mk (hb);have n2_:=Aside0.mk (hi);clear HK;clear HB;clear HI0;have HK:=n0_;have HB:=n1_;have HI0:=n2_;clear n0_ n1_ n2_;(try clear hb);(try clear hk);(try clear hi)))
  go_ret
  exact ⟨q21_,q16_,q7_,q17_⟩
 rw [if_neg c4] at H
 have c4b0:=decide_eq_false c4
 clear c4
 replace H:=Option.bind_eq_some_iff.mp H
 obtain ⟨⟨t105,t106⟩,A80,H⟩:=H
 try dsimp -simprocs -eta only at H
 have A8:=Aside0.mk A80
 clear A80
 replace H:=Option.bind_eq_some_iff.mp H
 obtain ⟨⟨t107,t108⟩,A90,H⟩:=H
 try dsimp -simprocs -eta only at H
 have A9:=Aside0.mk A90
 clear A90
 by_cases c10:a1 = 0
 ·rw [if_pos c10] at H
  exact absurd H (by simp)
 rw [if_neg c10] at H
 have c10b0:(a1 == 0) = false:=beq_eq_false_iff_ne.mpr c10
 have c10b1:(a1 != 0) = true:=bne_iff_ne.mpr c10
 simp only [Option.some.injEq,Prod.mk.injEq] at H
 obtain ⟨rfl,rfl⟩:=H
 go_enter Tryd.func30,Tryd.ntmps30
 go_wp2_with (first | ((with_reducible refine gate_callee (f:=54) rfl ?_);refine goesL_ (some 15) rfl rfl Tryd.func54 (by kernel_rfl) rfl #[.pointer (some ⟨g,0,none⟩)] rfl q19_ ?_;(with_reducible refine (spec_l1Rd_next.calls g s0_0 s0_1 t105 t106 w0 _ ?side1 ?side2 A8.out).mono ?_);(case side1 => exact q49_);(case side2 => exact q40_);rintro e w11 ⟨rfl,hi,hb,hk⟩;refine ⟨_,rfl,?_⟩;have n0_:=Aside0.mk (KeepBut.trans q17_ hk (.inl rfl));have n1_:=Aside0.mk (hb);have n2_:=Aside0.mk (hi);clear HK;clear HB;clear HI0;have HK:=n0_;have HB:=n1_;have HI0:=n2_;clear n0_ n1_ n2_;(try clear hb);(try clear hk);(try clear hi)) | ((with_reducible refine gate_callee (f:=54) rfl ?_);refine goesL_ (some 19) rfl rfl Tryd.func54 (by kernel_rfl) rfl #[.pointer (some ⟨g,0,none⟩)] rfl q19_ ?_;(with_reducible refine (spec_l1Rd_next.calls g s0_0 t106 t107 t108 w0 _ ?side1 ?side2 A9.out).mono ?_);(case side1 => exact q49_);(case side2 => exact q40_);rintro e w12 ⟨rfl,hi,hb,hk⟩;refine ⟨_,rfl,?_⟩;have n0_:=Aside0.mk (KeepBut.trans q17_ hk (.inl rfl));have n1_:=Aside0.mk (hb);have n2_:=Aside0.mk (hi);clear HK;clear HB;clear HI0;have HK:=n0_;have HB:=n1_;have HI0:=n2_;clear n0_ n1_ n2_;(try clear hb);(try clear hk);(try clear hi)))
 go_ret
 exact ⟨q21_,q16_,q7_,q17_⟩
def spec_l1Rd_once.f (s0_0:List Int) (s0_1:Int) (a1:Int):Option (Bool × Int):=(spec_l1Rd_below.f s0_0 s0_1 a1).bind fun bt109 => (some ((bt109.1 == (wrap64 (a1 - 1))),bt109.2))
theorem spec_l1Rd_once.calls (g:Nat) (s0_0:List Int) (s0_1:Int) (a1:Int) (r1:Bool) (r2:Int) (w0 w:World) (hI:IsS62 w0 w g s0_0 s0_1) (hB:Below w0.heap.size w0 w) (h:spec_l1Rd_once.f s0_0 s0_1 a1 = some (r1,r2)) :
  Calls Tryd.prog 27 #[.pointer (some ⟨g,0,none⟩),.int .i64 a1] w fun e w' => e = .returned (.bool r1) ∧ IsS62 w0 w' g s0_0 r2 ∧ Below w0.heap.size w0 w' ∧ KeepBut w w' g none:=by
 have HI0:=Aside0.mk hI
 have HK:=Aside0.mk (KeepBut.refl w g none)
 have HL:=Aside0.mk hB.size
 clear hI
 have HW0:=Aside0.mk hB.size
 have HB:=Aside0.mk hB
 clear hB
 have H:=h;unfold spec_l1Rd_once.f at H
 clear h
 replace H:=Option.bind_eq_some_iff.mp H
 obtain ⟨⟨t109,t110⟩,A30,H⟩:=H
 try dsimp -simprocs -eta only at H
 have A3:=Aside0.mk A30
 clear A30
 simp only [Option.some.injEq,Prod.mk.injEq] at H
 obtain ⟨rfl,rfl⟩:=H
 go_enter Tryd.func27,Tryd.ntmps27
 go_wp2_with (first | ((with_reducible refine gate_callee (f:=30) rfl ?_);refine goesL_ (some 7) rfl rfl Tryd.func30 (by kernel_rfl) rfl #[.pointer (some ⟨g,0,none⟩),.int .i64 a1] rfl q19_ ?_;(with_reducible refine (spec_l1Rd_below.calls g s0_0 s0_1 a1 t109 t110 w0 _ ?side1 ?side2 A3.out).mono ?_);(case side1 => exact q49_);(case side2 => exact q40_);rintro e w4 ⟨rfl,hi,hb,hk⟩;refine ⟨_,rfl,?_⟩;have n0_:=Aside0.mk (KeepBut.trans q17_ hk (.inl rfl));have n1_:=Aside0.mk (hb);have n2_:=Aside0.mk (hi);clear HK;clear HB;clear HI0;have HK:=n0_;have HB:=n1_;have HI0:=n2_;clear n0_ n1_ n2_;(try clear hb);(try clear hk);(try clear hi)))
 go_ret
 exact ⟨q21_,q16_,q7_,q17_⟩
def spec_DrawSymText.l0:Nat → List (S54) → List ByteArray → Int → List Int → Int → Option ((List (S54)))
 | 0,_,_,_,_,_ => none
 | k + 1,x4,x5,x6,x114000,x114001 => if x6 < (x5.length:Int) then ((spec_l1Rd_once.f x114000 x114001 2).bind fun bt120 => (if bt120.1 = true then (if 0 ≤ x6 then ((spec_l1Rd_below.f x114000 bt120.2 16).bind fun bt123 => ((spec_l1Rd_below.f x114000 bt123.2 70000).bind fun bt125 => (if x4.length < 4398046511104 then (spec_DrawSymText.l0 k (x4 ++ [(⟨rdOf ByteArray.empty x5 x6,bt123.1,bt125.1⟩:S54)]) x5 (wrap64 (x6 + 1)) x114000 bt125.2) else (none)))) else (none)) else (spec_DrawSymText.l0 k x4 x5 (wrap64 (x6 + 1)) x114000 bt120.2))) else (some x4)
def spec_DrawSymText.f (k:Nat) (l0:List Int):Option ((List (S54))):=(spec_l1Open.f l0).bind fun bt111 => (spec_DrawSymText.l0 k (([]:List (S54))) (([(⟨#[97]⟩:ByteArray),(⟨#[98,46,120]⟩:ByteArray),(⟨#[122,122]⟩:ByteArray)]:List ByteArray)) 0 bt111.1 bt111.2)
def spec_DrawSymText.T8:Bool × List (List Nat × List Nat):=(true,[([],[]),([],[]),([],[]),([1,2],[1,2]),([3],[3]),([],[]),([5],[5]),([],[]),([7,6],[7]),([4,6,8],[4,6,8]),([9],[9]),([0,10,8],[0,10]),([11,11,0,1,2,3,4,5,6,7,8,9,10,11],[0,11])])
def spec_DrawSymText.B8:List Nat:=[0,0,0,6,14,0,32,0,224,510,1022,2047,4095]
theorem spec_DrawSymText.tab8:rtab .any (opsOf Tryd.f19 8) = spec_DrawSymText.T8:=by kernel_rfl
theorem spec_DrawSymText.bits8:waitsOk spec_DrawSymText.T8.2 spec_DrawSymText.B8 = true:=by kernel_rfl
theorem spec_DrawSymText.calls (k:Nat) (A0:Option Addr) (c0:Nat) (l0:List Int) (r:List (S54)) (w:World) (hr0:Kd.C (Kd.int .u8) w A0 l0.length l0) (hc0:l0.length ≤ c0) (h:spec_DrawSymText.f k l0 = some r) :
  Calls Tryd.prog 19 #[.slice A0 l0.length c0] w fun e w' => ∃ v0_:Value,e = .returned (v0_) ∧ Kd.R k54 54 w' w.heap.size (fun _ => True) v0_ r ∧ Below w.heap.size w w':=by
 have hu54:=Tryd.underlying54
 have HR0:=Aside0.mk hr0
 have HC0:=Aside0.mk hc0
 clear hr0 hc0
 have HB:=Aside0.mk (Below.refl w.heap.size w)
 have H:=h;unfold spec_DrawSymText.f at H
 clear h
 replace H:=Option.bind_eq_some_iff.mp H
 obtain ⟨⟨t111,t112⟩,A20,H⟩:=H
 try dsimp -simprocs -eta only at H
 have A2:=Aside0.mk A20
 clear A20
 obtain ⟨y114,hy114⟩:∃ y_:List (S54),y_ = (([]:List (S54))):=⟨_,rfl⟩
 replace H:(spec_DrawSymText.l0 k y114 (([(⟨#[97]⟩:ByteArray),(⟨#[98,46,120]⟩:ByteArray),(⟨#[122,122]⟩:ByteArray)]:List ByteArray)) 0 t111 t112) = some r:=by first | (rw [hy114];exact H) | exact H
 have Ny114:=Aside0.mk hy114
 clear hy114
 obtain ⟨y117,hy117⟩:∃ y_:List ByteArray,y_ = (([(⟨#[97]⟩:ByteArray),(⟨#[98,46,120]⟩:ByteArray),(⟨#[122,122]⟩:ByteArray)]:List ByteArray)):=⟨_,rfl⟩
 replace H:(spec_DrawSymText.l0 k y114 y117 0 t111 t112) = some r:=by first | (rw [hy117];exact H) | exact H
 have Ny117:=Aside0.mk hy117
 clear hy117
 have H':=Aside0.mk H
 clear H
 go_enter Tryd.func19,Tryd.ntmps19
 go_wp2_with (first | ((with_reducible refine gate_callee (f:=26) rfl ?_);refine goesL_ (some 8) rfl rfl Tryd.func26 (by kernel_rfl) rfl #[.slice A0 l0.length c0] rfl q19_ ?_;(with_reducible refine (spec_l1Open.calls _ _ l0 t111 t112 w _ ?side1 ?side2 ?side3 A2.out).mono ?_);(case side1 => exact q50_);(case side2 => exact HR0.out);(case side3 => exact HC0.out);rintro e w3 ⟨g113,rfl,hi,hb,hb2⟩;refine ⟨_,rfl,?_⟩;have n0_:=Aside0.mk (hb);have n1_:=Aside0.mk (hi);clear HB;have HB:=n0_;have HI113:=n1_;clear n0_ n1_;(try clear hb);(try clear hb2);(try clear hi)) | ((with_reducible refine gate_dst (N:=9) rfl ?_);refine Kd.R_lit k54 _ 54 ?hg (N:=9) ?hd (xs:=([]:List (S54))) (inner:=[]) (ok:=fun _ => True) (okp:=fun _ => True) ?hr ?hp (fun _ hk => hk) trivial (Below.refl _ _) (Nat.le_refl _) (by simp) ?_;(case hd => rfl);(case hg => rfl);(case hr => exact q51_);(case hp => exact (Reps.none _ _));intro v115 w4 ho5 hb hg_ hnew_;clear hg_ hnew_;(first | rw [← Ny114.out] at ho5 | (simp only [Int.reduceToNat] at ho5;rw [← Ny114.out] at ho5));have n0_:=Aside0.mk (Kd.R_lower ho5 (below_size q5_));have n1_:=Aside0.mk (IsS62.below q14_ hb);have n2_:=Aside0.mk (below_step q5_ hb);clear HI113;clear HB;have HO116:=n0_;have HI113:=n1_;have HB:=n2_;clear n0_ n1_ n2_;clear hb ho5) | ((with_reducible refine gate_dst (N:=10) rfl ?_);refine Kd.R_lit Kd.string _ 9 ?hg (N:=10) ?hd (xs:=([(⟨#[97]⟩:ByteArray),(⟨#[98,46,120]⟩:ByteArray),(⟨#[122,122]⟩:ByteArray)]:List ByteArray)) (inner:=[.string (⟨#[97]⟩:ByteArray),.string (⟨#[98,46,120]⟩:ByteArray),.string (⟨#[122,122]⟩:ByteArray)]) (ok:=fun _ => True) (okp:=fun _ => True) ?hr ?hp (fun _ hk => hk) trivial (Below.refl _ _) (Nat.le_refl _) (by simp) ?_;(case hd => rfl);(case hg => rfl);(case hr => exact q51_);(case hp => exact (Reps.one (show Kd.M Kd.string _ _ _ (⟨#[97]⟩:ByteArray) [.string (⟨#[97]⟩:ByteArray)] from rfl) (Reps.one (show Kd.M Kd.string _ _ _ (⟨#[98,46,120]⟩:ByteArray) [.string (⟨#[98,46,120]⟩:ByteArray)] from rfl) (Reps.one (show Kd.M Kd.string _ _ _ (⟨#[122,122]⟩:ByteArray) [.string (⟨#[122,122]⟩:ByteArray)] from rfl) (Reps.none _ _)))));intro v118 w6 ho7 hb hg_ hnew_;clear hg_ hnew_;(first | rw [← Ny117.out] at ho7 | (simp only [Int.reduceToNat] at ho7;rw [← Ny117.out] at ho7));have n0_:=Aside0.mk (Kd.R_below (by (with_reducible repeat (first | apply Kd.R_alloc | apply Kd.R_drewN | apply Kd.R_drew));exact HO116.out) hb);have n1_:=Aside0.mk (Kd.R_lower ho7 (below_size q5_));have n2_:=Aside0.mk (IsS62.below q14_ hb);have n3_:=Aside0.mk (below_step q5_ hb);clear HO116;clear HI113;clear HB;have HO116:=n0_;have HO119:=n1_;have HI113:=n2_;have HB:=n3_;clear n0_ n1_ n2_ n3_;clear hb ho7))
 go_loopg [4,6] k (fun kq v4 v6 w' => ∃ (x4_1:List (S54)) (x6_1:Int) (x114001_1:Int),v6 = .int .i64 x6_1 ∧ Aside0 (spec_DrawSymText.l0 kq x4_1 y117 x6_1 t111 x114001_1 = some r) ∧ Aside0 (kq ≤ k) ∧ Aside0 (Kd.R k54 54 w' w.heap.size (fun _ => True) v4 x4_1) ∧ Aside0 (Kd.R Kd.string 9 w' w.heap.size (fun _ => True) v118 y117) ∧ Aside0 (IsS62 w w' g113 t111 x114001_1) ∧ Aside0 (Below w.heap.size w w'))
 case atStart => exact ⟨(y114),(0),(t112),q26_,H',⟨Nat.le_refl _⟩,⟨by (with_reducible repeat (first | apply Kd.R_alloc | apply Kd.R_drewN | apply Kd.R_drew));exact HO116.out⟩,⟨by (with_reducible repeat (first | apply Kd.R_alloc | apply Kd.R_drewN | apply Kd.R_drew));exact HO119.out⟩,⟨q14_⟩,⟨q5_⟩⟩
 clear H'
 try clear c1
 try clear c2
 try clear p2
 try clear p6
 obtain ⟨x4_1,x6_1,x114001_1,rfl,HA,HK1,HO_4,HO_5,HI113,HB⟩:=hrel
 cases gk with
 | zero => exact absurd HA.out (by simp [spec_DrawSymText.l0])
 | succ k1 =>
  have H:=HA.out
  clear HA
  simp only [spec_DrawSymText.l0] at H
  by_cases c8:x6_1 < (y117.length:Int)
  ·rw [if_pos c8] at H
   have c8b0:=decide_eq_true c8
   clear c8
   replace H:=Option.bind_eq_some_iff.mp H
   obtain ⟨⟨t120,t121⟩,A90,H⟩:=H
   try dsimp -simprocs -eta only at H
   have A9:=Aside0.mk A90
   clear A90
   by_cases c10:t120 = true
   ·subst c10
    rewrite [if_pos rfl] at H
    by_cases c11:0 ≤ x6_1
    rotate_left
    ·rw [if_neg c11] at H
     exact absurd H (by simp)
    rw [if_pos c11] at H
    have c11b0:=decide_eq_true c11
    clear c11
    replace H:=Option.bind_eq_some_iff.mp H
    obtain ⟨⟨t123,t124⟩,A120,H⟩:=H
    try dsimp -simprocs -eta only at H
    have A12:=Aside0.mk A120
    clear A120
    replace H:=Option.bind_eq_some_iff.mp H
    obtain ⟨⟨t125,t126⟩,A130,H⟩:=H
    try dsimp -simprocs -eta only at H
    have A13:=Aside0.mk A130
    clear A130
    by_cases c14:x4_1.length < 4398046511104
    rotate_left
    ·rw [if_neg c14] at H
     exact absurd H (by simp)
    rw [if_pos c14] at H
    have LMc14:=Aside0.mk c14
    clear c14
    obtain ⟨y127,hy127⟩:∃ y_:List (S54),y_ = (x4_1 ++ [(⟨rdOf ByteArray.empty y117 x6_1,t123,t125⟩:S54)]):=⟨_,rfl⟩
    replace H:(spec_DrawSymText.l0 k1 y127 y117 (wrap64 (x6_1 + 1)) t111 t126) = some r:=by first | (rw [hy127];exact H) | exact H
    have Ny127:=Aside0.mk hy127
    clear hy127
    have H':=Aside0.mk H
    clear H
    obtain ⟨Ao15,co15,eo15⟩:=Kd.R_slice HO_5.out
    subst eo15
    try go_wp2_with (first | ((with_reducible refine gate_callee (f:=27) rfl ?_);refine goesL_ (some 18) rfl rfl Tryd.func27 (by kernel_rfl) rfl #[.pointer (some ⟨g113,0,none⟩),.int .i64 2] rfl q19_ ?_;(with_reducible refine (spec_l1Rd_once.calls g113 t111 x114001_1 2 true t121 w _ ?side1 ?side2 A9.out).mono ?_);(case side1 => exact q46_);(case side2 => exact q38_);rintro e w16 ⟨rfl,hi,hb,hk⟩;refine ⟨_,rfl,?_⟩;have n0_:=Aside0.mk (Kd.R_mono (Kd.R_keep (IsS62.apart (show IsS62 w _ g113 t111 x114001_1 from by repeat (first | (with_reducible first | exact HI113.out | apply IsS62.alloc | apply IsS62.drewN | apply IsS62.drew | apply IsS62.set_1) | exact HI113.out)) q31_ (by decide)) hk (fun _ h => h.2)) (fun _ h => h.1));have n1_:=Aside0.mk (Kd.R_mono (Kd.R_keep (IsS62.apart (show IsS62 w _ g113 t111 x114001_1 from by repeat (first | (with_reducible first | exact HI113.out | apply IsS62.alloc | apply IsS62.drewN | apply IsS62.drew | apply IsS62.set_1) | exact HI113.out)) q32_ (by decide)) hk (fun _ h => h.2)) (fun _ h => h.1));have n2_:=Aside0.mk (hb);have n3_:=Aside0.mk (hi);clear HO_4;clear HO_5;clear HB;clear HI113;have HO_4:=n0_;have HO_5:=n1_;have HB:=n2_;have HI113:=n3_;clear n0_ n1_ n2_ n3_;(try clear hb);(try clear hk);(try clear hi)))
    have n0_:=Aside0.mk (Kd.R_drew HO_4.out)
    have n1_:=Aside0.mk (Kd.R_drew HO_5.out)
    have n2_:=Aside0.mk (IsS62.drew HI113.out)
    have n3_:=Aside0.mk (below_drew1 HB.out)
    clear HO_4
    clear HO_5
    clear HI113
    clear HB
    have HO_4:=n0_
    have HO_5:=n1_
    have HI113:=n2_
    have HB:=n3_
    clear n0_ n1_ n2_ n3_
    have p122:0 ≤ (x6_1:Int):=of_decide_eq_true q36_
    have q122:x6_1 < (y117.length:Int):=of_decide_eq_true q36_
    obtain ⟨ad122,e122,hx122_0⟩:=Kd.at_string (Kd.R_reads' HO_5.out).2.2 x6_1 p122 q122
    cases e122
    replace p122:=eq_true p122
    replace q122:=eq_true q122
    refine start_ (n:=13) (S:=fun w' => w'.cell? (ad122.add (x6_1).toNat) = some (.string (rdOf ByteArray.empty y117 x6_1))) (ds:=[10,11]) #[false,false,false,false,false,false,false,false,false,false,false,false,false] (by kernel_rfl) rfl rfl (hx122_0) (fun hHeld => ?_);refine with_tabW spec_DrawSymText.tab8 spec_DrawSymText.bits8 (fun HT_ HW_ => ?_)
    generalize w16.drew = w17 at HO_4 HO_5 HI113 HB hx122_0 hHeld ⊢
    refine pure_ (i:=0) (N:=some 19) (v:=?_) (a':=?_) #[true,false,false,false,false,false,false,false,false,false,false,false,false] rfl rfl (any_of HT_.out (by kernel_rfl)) (fun _ _ _ h => h) (Or.inl ⟨by rfl,?_⟩) ?_ ?_
    rotate_left
    ·intro w'
     go_simp
     with_reducible rfl
    rotate_left
    ·simp only [Act.put,List.setIfInBounds_toArray,List.set_cons_zero,List.set_cons_succ,i64_w,i32_w]
     rfl
    refine pure_ (i:=1) (N:=some 20) (v:=?_) (a':=?_) #[true,true,false,false,false,false,false,false,false,false,false,false,false] rfl rfl (any_of HT_.out (by kernel_rfl)) (fun _ _ _ h => h) (Or.inl ⟨by rfl,?_⟩) ?_ ?_
    rotate_left
    ·intro w'
     go_simp
     with_reducible rfl
    rotate_left
    ·simp only [Act.put,List.setIfInBounds_toArray,List.set_cons_zero,List.set_cons_succ,i64_w,i32_w]
     rfl
    refine pure_ (i:=2) (N:=some 21) (v:=?_) (a':=?_) #[true,true,true,false,false,false,false,false,false,false,false,false,false] rfl rfl (any_of HT_.out (by kernel_rfl)) (fun _ _ _ h => h) (Or.inl ⟨by rfl,?_⟩) ?_ ?_
    rotate_left
    ·intro w'
     go_simp
     with_reducible rfl
    rotate_left
    ·simp only [Act.put,List.setIfInBounds_toArray,List.set_cons_zero,List.set_cons_succ,i64_w,i32_w]
     rfl
    refine pure_ (i:=3) (N:=some 22) (v:=?_) (a':=?_) #[true,true,true,true,false,false,false,false,false,false,false,false,false] rfl rfl (any_of HT_.out (by kernel_rfl)) (fun _ _ _ h => h) (Or.inl ⟨by rfl,?_⟩) ?_ ?_
    rotate_left
    ·intro w'
     go_simp
     with_reducible rfl
    rotate_left
    ·simp only [Act.put,List.setIfInBounds_toArray,List.set_cons_zero,List.set_cons_succ,i64_w,i32_w]
     rfl
    refine pure_ (i:=5) (N:=some 24) (v:=?_) (a':=?_) #[true,true,true,true,false,true,false,false,false,false,false,false,false] rfl rfl (any_of HT_.out (by kernel_rfl)) (fun _ _ _ h => h) (Or.inl ⟨by rfl,?_⟩) ?_ ?_
    rotate_left
    ·intro w'
     go_simp
     with_reducible rfl
    rotate_left
    ·simp only [Act.put,List.setIfInBounds_toArray,List.set_cons_zero,List.set_cons_succ,i64_w,i32_w]
     rfl
    refine pure_ (i:=7) (N:=some 26) (v:=?_) (a':=?_) #[true,true,true,true,false,true,false,true,false,false,false,false,false] rfl rfl (any_of HT_.out (by kernel_rfl)) (fun _ _ _ h => h) (Or.inl ⟨by rfl,?_⟩) ?_ ?_
    rotate_left
    ·intro w'
     go_simp
     with_reducible rfl
    rotate_left
    ·simp only [Act.put,List.setIfInBounds_toArray,List.set_cons_zero,List.set_cons_succ,i64_w,i32_w]
     rfl
    refine take_ (i:=4) (N:=some 23) (v:=?_) (a':=?_) #[true,true,true,true,true,true,false,true,false,false,false,false,false] rfl rfl (take_ofW HT_.out HW_.out (by kernel_rfl)) (fun _ _ _ h => h) (Or.inl ⟨by rfl,?_⟩) hHeld ?_ ?_
    rotate_left
    ·intro w' s0
     go_simp
     with_reducible rfl
    rotate_left
    ·simp only [Act.put,List.setIfInBounds_toArray,List.set_cons_zero,List.set_cons_succ,i64_w,i32_w]
     rfl
    refine one_ (i:=6) (N:=some 25) #[true,true,true,true,true,true,true,true,false,false,false,false,false] rfl rfl (one_of HT_.out (by kernel_rfl)) (by decide) (fun K hK => ?_)
    refine goes_ Tryd.func30 (by kernel_rfl) rfl #[.pointer (some ⟨g113,0,none⟩),.int .i64 16] (by rfl) rfl rfl q19_ ?_
    with_reducible refine (spec_l1Rd_below.calls g113 t111 t121 16 t123 t124 w _ ?side1 ?side2 A12.out).mono ?_
    (case side1 => exact q46_)
    (case side2 => exact q38_)
    rintro e w18 ⟨rfl,hi,hb,hk⟩
    have HS0_:=keep_cell hk (hHeld) q3_
    refine ⟨_,rfl,?_⟩
    have n0_:=Aside0.mk (Kd.R_mono (Kd.R_keep (IsS62.apart (show IsS62 w _ g113 t111 t121 from by repeat (first | (with_reducible first | exact HI113.out | apply IsS62.alloc | apply IsS62.drewN | apply IsS62.drew | apply IsS62.set_1) | exact HI113.out)) q31_ (by decide)) hk (fun _ h => h.2)) (fun _ h => h.1))
    have n1_:=Aside0.mk (Kd.R_mono (Kd.R_keep (IsS62.apart (show IsS62 w _ g113 t111 t121 from by repeat (first | (with_reducible first | exact HI113.out | apply IsS62.alloc | apply IsS62.drewN | apply IsS62.drew | apply IsS62.set_1) | exact HI113.out)) q32_ (by decide)) hk (fun _ h => h.2)) (fun _ h => h.1))
    have n2_:=Aside0.mk (hb)
    have n3_:=Aside0.mk (hi)
    clear HO_4
    clear HO_5
    clear HB
    clear HI113
    have HO_4:=n0_
    have HO_5:=n1_
    have HB:=n2_
    have HI113:=n3_
    clear n0_ n1_ n2_ n3_
    (try clear hb)
    (try clear hb2)
    (try clear hk)
    (try clear hi)
    refine hK.out _ _ (HS0_) (fun hHeld => ?_)
    clear hK K
    refine norm_ (a':=?_) ?_ ?_
    rotate_left
    ·show Act.put _ (some 25) _ = _
     simp only [Act.put,List.setIfInBounds_toArray,List.set_cons_zero,List.set_cons_succ,i64_w,i32_w]
     rfl
    refine one_ (i:=8) (N:=some 27) #[true,true,true,true,true,true,true,true,true,false,false,false,false] rfl rfl (one_of HT_.out (by kernel_rfl)) (by decide) (fun K hK => ?_)
    refine goes_ Tryd.func30 (by kernel_rfl) rfl #[.pointer (some ⟨g113,0,none⟩),.int .i64 70000] (by rfl) rfl rfl q19_ ?_
    with_reducible refine (spec_l1Rd_below.calls g113 t111 t124 70000 t125 t126 w _ ?side1 ?side2 A13.out).mono ?_
    (case side1 => exact q46_)
    (case side2 => exact q38_)
    rintro e w19 ⟨rfl,hi,hb,hk⟩
    have HS0_:=keep_cell hk (hHeld) q3_
    refine ⟨_,rfl,?_⟩
    have n0_:=Aside0.mk (Kd.R_mono (Kd.R_keep (IsS62.apart (show IsS62 w _ g113 t111 t124 from by repeat (first | (with_reducible first | exact HI113.out | apply IsS62.alloc | apply IsS62.drewN | apply IsS62.drew | apply IsS62.set_1) | exact HI113.out)) q31_ (by decide)) hk (fun _ h => h.2)) (fun _ h => h.1))
    have n1_:=Aside0.mk (Kd.R_mono (Kd.R_keep (IsS62.apart (show IsS62 w _ g113 t111 t124 from by repeat (first | (with_reducible first | exact HI113.out | apply IsS62.alloc | apply IsS62.drewN | apply IsS62.drew | apply IsS62.set_1) | exact HI113.out)) q32_ (by decide)) hk (fun _ h => h.2)) (fun _ h => h.1))
    have n2_:=Aside0.mk (hb)
    have n3_:=Aside0.mk (hi)
    clear HO_4
    clear HO_5
    clear HB
    clear HI113
    have HO_4:=n0_
    have HO_5:=n1_
    have HB:=n2_
    have HI113:=n3_
    clear n0_ n1_ n2_ n3_
    (try clear hb)
    (try clear hb2)
    (try clear hk)
    (try clear hi)
    refine hK.out _ _ (HS0_) (fun hHeld => ?_)
    clear hK K
    refine norm_ (a':=?_) ?_ ?_
    rotate_left
    ·show Act.put _ (some 27) _ = _
     simp only [Act.put,List.setIfInBounds_toArray,List.set_cons_zero,List.set_cons_succ,i64_w,i32_w]
     rfl
    refine pure_ (i:=9) (N:=some 28) (v:=?_) (a':=?_) #[true,true,true,true,true,true,true,true,true,true,false,false,false] rfl rfl (any_of HT_.out (by kernel_rfl)) (fun _ _ _ h => h) (Or.inl ⟨by rfl,?_⟩) ?_ ?_
    rotate_left
    ·intro w'
     go_simp
     with_reducible rfl
    rotate_left
    ·simp only [Act.put,List.setIfInBounds_toArray,List.set_cons_zero,List.set_cons_succ,i64_w,i32_w]
     rfl
    refine last_ (i:=10) (N:=some 29) #[true,true,true,true,true,true,true,true,true,true,true,false,false] rfl rfl (one_of HT_.out (by kernel_rfl)) (by decide) (fun K hK => ?_)
    refine value_ (w1:=?_) (v:=?_) (by rfl) rfl ?_ ?_
    rotate_left 2
    ·go_simp
     constructor
     ·rfl
     rfl
    refine hK.out _ _ ?_
    clear hK K
    refine norm_ (a':=?_) ?_ ?_
    rotate_left
    ·show Act.put _ (some 29) _ = _
     simp only [Act.put,List.setIfInBounds_toArray,List.set_cons_zero,List.set_cons_succ,i64_w,i32_w]
     rfl
    refine last_ (i:=11) (N:=some 30) #[true,true,true,true,true,true,true,true,true,true,true,true,false] rfl rfl (one_of HT_.out (by kernel_rfl)) (by decide) (fun K hK => ?_)
    refine Kd.R_append_step k54 (w0:=w) w.heap.size (by rfl) (.tmp 19) (.tmp 29) 35 54 (.agg #[(.string ⟨#[]⟩),(.int .i64 0),(.int .i64 0)]) 32 rfl Tryd.underlying35 info54 rfl (by decide) (by omega) u4 x4_1 (⟨rdOf ByteArray.empty y117 x6_1,t123,t125⟩:S54) [.string (rdOf ByteArray.empty y117 x6_1),.int .i64 t123,.int .i64 t125] (fun _ => True) (fun _ => False) rfl rfl ?aP (fun _ hk => hk.elim) ?aF ?aO ?aB ?aS ?aL ?_
    (case aP => exact k54_mkM _ _ _ (⟨rdOf ByteArray.empty y117 x6_1,t123,t125⟩:S54))
    (case aB => exact q5_)
    (case aF => exact (fun _ _ => trivial))
    (case aO => exact q31_)
    (case aS => exact (below_size q5_))
    (case aL => have:=LMc14.out;omega)
    intro v128 w20 ho hb hg hat
    rw [← Ny127.out] at ho
    have n0_:=Aside0.mk (Kd.R_over' q32_ (Kd.R_typed q31_) (by decide) hg)
    have n1_:=Aside0.mk (IsS62.grown q14_ hg (IsS62.own_ne HI113.out HO_4.out (by decide)))
    have n2_:=Aside0.mk (hb)
    have n3_:=Aside0.mk (ho)
    clear HO_5
    clear HI113
    clear HB
    clear HO_4
    have HO_5:=n0_
    have HI113:=n1_
    have HB:=n2_
    have HO129:=n3_
    clear n0_ n1_ n2_ n3_
    clear ho hb hg hat
    refine hK.out _ _ ?_
    clear hK K
    refine norm_ (a':=?_) ?_ ?_
    rotate_left
    ·show Act.put _ (some 30) _ = _
     simp only [Act.put,List.setIfInBounds_toArray,List.set_cons_zero,List.set_cons_succ,i64_w,i32_w]
     rfl
    refine pure_ (i:=12) (N:=some 4) (v:=?_) (a':=?_) #[true,true,true,true,true,true,true,true,true,true,true,true,true] rfl rfl (any_of HT_.out (by kernel_rfl)) (fun _ _ _ h => h) (Or.inl ⟨by rfl,?_⟩) ?_ ?_
    rotate_left
    ·intro w'
     go_simp
     with_reducible rfl
    rotate_left
    ·simp only [Act.put,List.setIfInBounds_toArray,List.set_cons_zero,List.set_cons_succ,i64_w,i32_w]
     rfl
    refine done_ (done_of HT_.out (by kernel_rfl)) ?_
    try go_wp2
    go_roundg k1
    case measure => have:=HK1.out;omega
    case rel => exact ⟨(y127),(wrap64 (x6_1 + 1)),(t126),q26_,H',⟨by have:=HK1.out;omega⟩,⟨by (with_reducible repeat (first | apply Kd.R_alloc | apply Kd.R_drewN | apply Kd.R_drew));exact HO129.out⟩,⟨q32_⟩,⟨q14_⟩,⟨q5_⟩⟩
   replace c10:=Bool.eq_false_iff.mpr c10
   subst c10
   rewrite [if_neg (show ¬ (false = true) by decide)] at H
   have H':=Aside0.mk H
   clear H
   obtain ⟨Ao21,co21,eo21⟩:=Kd.R_slice HO_5.out
   subst eo21
   go_wp2_with (first | ((with_reducible refine gate_callee (f:=27) rfl ?_);refine goesL_ (some 18) rfl rfl Tryd.func27 (by kernel_rfl) rfl #[.pointer (some ⟨g113,0,none⟩),.int .i64 2] rfl q19_ ?_;(with_reducible refine (spec_l1Rd_once.calls g113 t111 x114001_1 2 false t121 w _ ?side1 ?side2 A9.out).mono ?_);(case side1 => exact q46_);(case side2 => exact q38_);rintro e w22 ⟨rfl,hi,hb,hk⟩;refine ⟨_,rfl,?_⟩;have n0_:=Aside0.mk (Kd.R_mono (Kd.R_keep (IsS62.apart (show IsS62 w _ g113 t111 x114001_1 from by repeat (first | (with_reducible first | exact HI113.out | apply IsS62.alloc | apply IsS62.drewN | apply IsS62.drew | apply IsS62.set_1) | exact HI113.out)) q31_ (by decide)) hk (fun _ h => h.2)) (fun _ h => h.1));have n1_:=Aside0.mk (Kd.R_mono (Kd.R_keep (IsS62.apart (show IsS62 w _ g113 t111 x114001_1 from by repeat (first | (with_reducible first | exact HI113.out | apply IsS62.alloc | apply IsS62.drewN | apply IsS62.drew | apply IsS62.set_1) | exact HI113.out)) q32_ (by decide)) hk (fun _ h => h.2)) (fun _ h => h.1));have n2_:=Aside0.mk (hb);have n3_:=Aside0.mk (hi);clear HO_4;clear HO_5;clear HB;clear HI113;have HO_4:=n0_;have HO_5:=n1_;have HB:=n2_;have HI113:=n3_;clear n0_ n1_ n2_ n3_;(try clear hb);(try clear hk);(try clear hi)))
   go_roundg k1
   case measure => have:=HK1.out;omega
   case rel => exact ⟨(x4_1),(wrap64 (x6_1 + 1)),(t121),q26_,H',⟨by have:=HK1.out;omega⟩,⟨q31_⟩,⟨q32_⟩,⟨q14_⟩,⟨q5_⟩⟩
  rw [if_neg c8] at H
  have c8b0:=decide_eq_false c8
  clear c8
  obtain rfl:=Option.some.inj H
  obtain ⟨Ao23,co23,eo23⟩:=Kd.R_slice HO_5.out
  subst eo23
  go_wp2
  go_ret
  exact ⟨_,q21_,q31_,q5_⟩
def impl_within.f (a0:Int) (a1:Int) (a2:Int):Option (Bool):=if a0 ≥ a1 then (some (decide (a0 ≤ a2))) else (some false)
theorem impl_within.calls (a0:Int) (a1:Int) (a2:Int) (r:Bool) (w:World) (h:impl_within.f a0 a1 a2 = some r) :
  Calls Tryd.prog 58 #[.int .i64 a0,.int .i64 a1,.int .i64 a2] w fun e w' => e = .returned (.bool r) ∧ Drawn0 w w':=by
 have H:=h;unfold impl_within.f at H
 clear h
 by_cases c4:a0 ≥ a1
 ·rw [if_pos c4] at H
  have c4b0:decide (a1 ≤ a0) = true:=decide_eq_true c4
  clear c4
  obtain rfl:=Option.some.inj H
  go_enter Tryd.func58,Tryd.ntmps58
  go_wp2
  go_ret
  exact ⟨q26_,q34_⟩
 rw [if_neg c4] at H
 have c4b0:decide (a1 ≤ a0) = false:=decide_eq_false c4
 clear c4
 obtain rfl:=Option.some.inj H
 go_enter Tryd.func58,Tryd.ntmps58
 go_wp2
 go_ret
 exact ⟨q26_,q34_⟩
def impl_isDigit.f (a0:Int):Option (Bool):=if a0 ≥ 48 then (some (decide (a0 ≤ 57))) else (some false)
theorem impl_isDigit.calls (a0:Int) (r:Bool) (w:World) (h:impl_isDigit.f a0 = some r) :
  Calls Tryd.prog 59 #[.int .u8 a0] w fun e w' => e = .returned (.bool r) ∧ Drawn0 w w':=by
 have H:=h;unfold impl_isDigit.f at H
 clear h
 by_cases c2:a0 ≥ 48
 ·rw [if_pos c2] at H
  have c2b0:decide (48 ≤ a0) = true:=decide_eq_true c2
  clear c2
  obtain rfl:=Option.some.inj H
  go_enter Tryd.func59,Tryd.ntmps59
  go_wp2
  go_ret
  exact ⟨q26_,q34_⟩
 rw [if_neg c2] at H
 have c2b0:decide (48 ≤ a0) = false:=decide_eq_false c2
 clear c2
 obtain rfl:=Option.some.inj H
 go_enter Tryd.func59,Tryd.ntmps59
 go_wp2
 go_ret
 exact ⟨q26_,q34_⟩
def impl_isSmall.f (a0:Int):Option (Bool):=if a0 ≥ 97 then (some (decide (a0 ≤ 122))) else (some false)
theorem impl_isSmall.calls (a0:Int) (r:Bool) (w:World) (h:impl_isSmall.f a0 = some r) :
  Calls Tryd.prog 60 #[.int .u8 a0] w fun e w' => e = .returned (.bool r) ∧ Drawn0 w w':=by
 have H:=h;unfold impl_isSmall.f at H
 clear h
 by_cases c2:a0 ≥ 97
 ·rw [if_pos c2] at H
  have c2b0:decide (97 ≤ a0) = true:=decide_eq_true c2
  clear c2
  obtain rfl:=Option.some.inj H
  go_enter Tryd.func60,Tryd.ntmps60
  go_wp2
  go_ret
  exact ⟨q26_,q34_⟩
 rw [if_neg c2] at H
 have c2b0:decide (97 ≤ a0) = false:=decide_eq_false c2
 clear c2
 obtain rfl:=Option.some.inj H
 go_enter Tryd.func60,Tryd.ntmps60
 go_wp2
 go_ret
 exact ⟨q26_,q34_⟩
end Go.Proofs.YtoiiaklmjpiejaaDoor.QFnSymTexts
