/- The machine's side of a law,written by a program of this session for this claim. -/
import Derived.Test.YtoiiaklmjpiejaaDoorBQq
import Derived.Test.YtoiiaklmjpiejaaDoorBQFnLinesx0
namespace Go.Proofs.YtoiiaklmjpiejaaDoor.QFnLines
open Go.Proofs.YtoiiaklmjpiejaaDoor.Qq
open Go.RowKit Go.Proofs.YtoiiaklmjpiejaaDoor.LibX Go.Proofs.YtoiiaklmjpiejaaDoor.LibE Go.Proofs.YtoiiaklmjpiejaaDoor.LibCB Go.Proofs.YtoiiaklmjpiejaaDoor.LibT Go.Proofs.YtoiiaklmjpiejaaDoorW.PrintWords Go.Proofs.YtoiiaklmjpiejaaDoorW.PrintLast Go.Proofs.YtoiiaklmjpiejaaDoorW.PrintMore
attribute [local go_sem] max2_int min2_int max_two min_two max_three min_three max_four min_four   -- for this text's walks alone
set_option maxHeartbeats 8000000
set_option maxRecDepth 100000
set_option linter.unusedVariables false
set_option linter.unusedSimpArgs false
def laws_big.f (l0:List Int):Option (Bool):=some (decide ((l0.length:Int) > 1048576))
theorem laws_big.calls (A0:Option Addr) (c0:Nat) (l0:List Int) (r:Bool) (w:World) (hr0:Kd.C (Kd.int .u8) w A0 l0.length l0) (hc0:l0.length ≤ c0) (h:laws_big.f l0 = some r) :
  Calls Tryd.prog 6 #[.slice A0 l0.length c0] w fun e w' => e = .returned (.bool r) ∧ Drawn0 w w':=by
 have HR0:=Aside0.mk hr0
 have HC0:=Aside0.mk hc0
 clear hr0 hc0
 have H:(some (decide ((l0.length:Int) > 1048576))) = some r:=h
 clear h
 obtain rfl:=Option.some.inj H
 go_enter Tryd.func6,Tryd.ntmps6
 go_wp2
 go_ret
 exact ⟨q101_,q108_⟩
/-- A state of type 62 at block g of W;what its slices lead to came in by w0. -/
def IsS62 (w0 W:World) (g:Nat) (f0:List Int) (f1:Int):Prop:=∃ A0 c0,W.heap[g]? = some (.cells #[.slice A0 f0.length c0,.int .i64 f1] 62 (0,0)) ∧ w0.heap.size ≤ g ∧ Kd.C (Kd.int .u8) w0 A0 f0.length f0
theorem IsS62.grown {w0 W:World} {g:Nat} {f0:List Int} {f1:Int} {W1:World} {row:Option Nat} (h:IsS62 w0 W g f0 f1) (hw:W.grownBy W1 row) (hne:some g ≠ row):IsS62 w0 W1 g f0 f1:=by
 obtain ⟨A0,c0,hb,hg,hr0⟩:=h
 exact ⟨A0,c0,blk_grown hb hw hne,hg,hr0⟩
theorem IsS62.below {w0 W:World} {g:Nat} {f0:List Int} {f1:Int} {W1:World} (h:IsS62 w0 W g f0 f1) (hw:Below W.heap.size W W1):IsS62 w0 W1 g f0 f1:=h.grown (grown_of_below hw none) (by simp)
theorem IsS62.drewN {w0 W:World} {g:Nat} {f0:List Int} {f1:Int} (h:IsS62 w0 W g f0 f1) (m:Nat):IsS62 w0 (W.drewN m) g f0 f1:=h
theorem IsS62.drew {w0 W:World} {g:Nat} {f0:List Int} {f1:Int} (h:IsS62 w0 W g f0 f1):IsS62 w0 W.drew g f0 f1:=h
theorem IsS62.apart {w0 W:World} {g:Nat} {f0:List Int} {f1:Int} {α:Type} {d:Kd α} {e:Nat} {base:Nat} {ok:Nat → Prop} {v:Value} {xs:List α} (h:IsS62 w0 W g f0 f1) (ho:d.R e W base ok v xs) (ht:∀ q,q ∈ e :: d.E → q ≠ 62):d.R e W base (fun k => ok k ∧ k ≠ g) v xs:=by
 obtain ⟨A0,c0,hb,hg,hr0⟩:=h
 exact Kd.R_types ho hb ht
theorem IsS62.lt {w0 W:World} {g:Nat} {f0:List Int} {f1:Int} (h:IsS62 w0 W g f0 f1):g < W.heap.size:=by
 obtain ⟨A0,c0,hb,hg,hr0⟩:=h
 exact blk_lt hb
theorem IsS62.ge {w0 W:World} {g:Nat} {f0:List Int} {f1:Int} (h:IsS62 w0 W g f0 f1):w0.heap.size ≤ g:=by
 obtain ⟨A0,c0,hb,hg,hr0⟩:=h
 exact hg
theorem IsS62.ne_blk {w0 W:World} {g:Nat} {f0:List Int} {f1:Int} {a:Nat} {cs:Array Value} {t:TypeId} {fr:Nat × Nat} (h:IsS62 w0 W g f0 f1) (hb2:W.heap[a]? = some (.cells cs t fr)) (ht:t ≠ 62):g ≠ a:=by
 obtain ⟨A0,c0,hb,hg,hr0⟩:=h
 rintro rfl
 rw [hb] at hb2
 injection hb2 with hb2
 injection hb2 with _ ht2
 exact ht ht2.symm
theorem IsS62.far {w0 W:World} {g:Nat} {f0:List Int} {f1:Int} {p:Addr} (h:IsS62 w0 W g f0 f1) (hne:g ≠ p.block) (u:Value):IsS62 w0 (W.setCell p u) g f0 f1:=by
 obtain ⟨A0,c0,hb,hg,hr0⟩:=h
 exact ⟨A0,c0,blk_far hb hne u,hg,hr0⟩
theorem cellS62_0 {W:World} {g:Nat} {A0:Option Addr} {c0:Nat} {f0:List Int} {f1:Int} (h:W.heap[g]? = some (.cells #[.slice A0 f0.length c0,.int .i64 f1] 62 (0,0))):W.cell? ⟨g,0,none⟩ = some (.slice A0 f0.length c0):=(blk_cell h 0).trans rfl
theorem cellS62_1 {W:World} {g:Nat} {A0:Option Addr} {c0:Nat} {f0:List Int} {f1:Int} (h:W.heap[g]? = some (.cells #[.slice A0 f0.length c0,.int .i64 f1] 62 (0,0))):W.cell? ⟨g,1,none⟩ = some (.int .i64 f1):=(blk_cell h 1).trans rfl
theorem IsS62.set_1 {w0 W:World} {g:Nat} {f0:List Int} {f1:Int} (h:IsS62 w0 W g f0 f1) (x:Int):IsS62 w0 (W.setCell ⟨g,1,none⟩ (.int .i64 x)) g f0 x:=by
 obtain ⟨A0,c0,hb,hg,hr0⟩:=h
 exact ⟨A0,c0,by simpa using blk_set hb 1 (.int .i64 x),hg,hr0⟩
def spec_l1Open.f (l0:List Int):Option (List Int × Int):=some (l0,0)
theorem spec_l1Open.calls (A0:Option Addr) (c0:Nat) (l0:List Int) (r1:List Int) (r2:Int) (w0 w:World) (hB:Below w0.heap.size w0 w) (hr0:Kd.C (Kd.int .u8) w0 A0 l0.length l0) (hc0:l0.length ≤ c0) (h:spec_l1Open.f l0 = some (r1,r2)) :
  Calls Tryd.prog 26 #[.slice A0 l0.length c0] w fun e w' => ∃ g_:Nat,e = .returned (.pointer (some ⟨g_,0,none⟩)) ∧ IsS62 w0 w' g_ r1 r2 ∧ Below w0.heap.size w0 w' ∧ Below w.heap.size w w':=by
 have hu62:=Tryd.underlying62
 have HR0:=Aside0.mk hr0
 have HC0:=Aside0.mk hc0
 clear hr0 hc0
 have HBW:=Aside0.mk (Below.refl w.heap.size w)
 have HW0:=Aside0.mk hB.size
 have HB:=Aside0.mk hB
 clear hB
 have H:(some (l0,0)) = some (r1,r2):=h
 clear h
 simp only [Option.some.injEq,Prod.mk.injEq] at H
 obtain ⟨rfl,rfl⟩:=H
 go_enter Tryd.func26,Tryd.ntmps26
 go_wp2_with (first | ((with_reducible refine gate_dst (N:=5) rfl ?_);refine box_event ?hg (N:=5) ?hd (cs:=#[.slice A0 l0.length c0,.int .i64 0]) (t:=62) ?hr ?_;(case hd => rfl);(case hg => rfl);(case hr => exact q130_);intro gb101 hg w2 hbox hb;have n0_:=Aside0.mk (below_step HBW.out hb);have n1_:=Aside0.mk (below_step q83_ hb);have n2_:=Aside0.mk (hbox);have n3_:=Aside0.mk ((q63_:w.heap.size ≤ gb101));have n4_:=Aside0.mk ((Nat.le_trans HW0.out (q63_:w.heap.size ≤ gb101):w0.heap.size ≤ gb101));clear HBW;clear HB;have HBW:=n0_;have HB:=n1_;have BK101:=n2_;have GW101:=n3_;have GE101:=n4_;clear n0_ n1_ n2_ n3_ n4_;clear hb hbox hg))
 go_ret
 exact ⟨_,rfl,(show IsS62 w0 _ gb101 l0 0 from ⟨_,_,by (with_reducible repeat (first | refine blk_drewN ?_ _ | refine blk_drew ?_ | refine blk_alloc ?_ _));exact BK101.out,GE101.out,HR0.out⟩),by repeat (first | (with_reducible first | exact HB.out | apply below_alloc | apply pw_below_drewN | apply below_drew1 | refine below_set ?_ GE101.out) | exact HB.out),by repeat (first | (with_reducible first | exact HBW.out | apply below_alloc | apply pw_below_drewN | apply below_drew1 | refine below_set ?_ GW101.out) | exact HBW.out)⟩
def spec_l1Rd_next.f (s0_0:List Int) (s0_1:Int):Option (Int × Int):=if s0_1 ≥ (s0_0.length:Int) then (some (0,s0_1)) else (if 0 ≤ (wrap64 ((wrap64 (s0_1 + 1)) - 1)) then (if (wrap64 ((wrap64 (s0_1 + 1)) - 1)) < (s0_0.length:Int) then (some (wrap64 (rd s0_0 (wrap64 ((wrap64 (s0_1 + 1)) - 1))),wrap64 (s0_1 + 1))) else (none)) else (none))
theorem spec_l1Rd_next.calls (g:Nat) (s0_0:List Int) (s0_1:Int) (r1:Int) (r2:Int) (w0 w:World) (hI:IsS62 w0 w g s0_0 s0_1) (hB:Below w0.heap.size w0 w) (h:spec_l1Rd_next.f s0_0 s0_1 = some (r1,r2)) :
  Calls Tryd.prog 54 #[.pointer (some ⟨g,0,none⟩)] w fun e w' => e = .returned (.int .i64 r1) ∧ IsS62 w0 w' g s0_0 r2 ∧ Below w0.heap.size w0 w' ∧ KeepBut w w' g none:=by
 have HI0:=Aside0.mk hI
 have HK:=Aside0.mk (KeepBut.refl w g none)
 have HL:=Aside0.mk hB.size
 clear hI
 have HW0:=Aside0.mk hB.size
 have HB:=Aside0.mk hB
 clear hB
 have H:=h;unfold spec_l1Rd_next.f at H
 clear h
 by_cases c2:s0_1 ≥ (s0_0.length:Int)
 ·rw [if_pos c2] at H
  have c2b0:decide ((s0_0.length:Int) ≤ s0_1) = true:=decide_eq_true c2
  clear c2
  simp only [Option.some.injEq,Prod.mk.injEq] at H
  obtain ⟨rfl,rfl⟩:=H
  obtain ⟨ASz3_0,cSz3_0,HGz3,hgz3,HSz3_0⟩:=HI0.out
  have hcz3_0:=cellS62_0 HGz3
  have hcz3_1:=cellS62_1 HGz3
  have hfz3_1:=blk_frozen HGz3 1
  clear HGz3 hgz3
  go_enter Tryd.func54,Tryd.ntmps54
  go_wp2
  repeat (go_quiet (fail);try go_wp2)
  go_ret
  exact ⟨q84_,q76_,q60_,q77_⟩
 rw [if_neg c2] at H
 have c2b0:decide ((s0_0.length:Int) ≤ s0_1) = false:=decide_eq_false c2
 clear c2
 obtain ⟨ji4,hji4⟩:∃ j_:Int,(wrap64 ((wrap64 (s0_1 + 1)) - 1)) = j_:=⟨_,rfl⟩
 (first | rewrite [hji4] at H | simp only [hji4] at H)
 have hji4w:(IntKind.i64.wrap ((wrap64 (s0_1 + 1)) - 1)) = ji4:=(i64_w _).trans hji4
 by_cases c5:0 ≤ (ji4)
 rotate_left
 ·rw [if_neg c5] at H
  exact absurd H (by simp)
 rw [if_pos c5] at H
 have c5b0:=decide_eq_true c5
 clear c5
 by_cases c6:(ji4) < (s0_0.length:Int)
 rotate_left
 ·rw [if_neg c6] at H
  exact absurd H (by simp)
 rw [if_pos c6] at H
 have c6b0:=decide_eq_true c6
 clear c6
 simp only [Option.some.injEq,Prod.mk.injEq] at H
 obtain ⟨rfl,rfl⟩:=H
 obtain ⟨ASz7_0,cSz7_0,HGz7,hgz7,HSz7_0⟩:=HI0.out
 have hcz7_0:=cellS62_0 HGz7
 have hcz7_1:=cellS62_1 HGz7
 have hfz7_1:=blk_frozen HGz7 1
 clear HGz7 hgz7
 have p102:0 ≤ ((ji4):Int):=of_decide_eq_true q113_
 have q102:(ji4) < (s0_0.length:Int):=of_decide_eq_true q113_
 obtain ⟨ad102,e102,hx102_0⟩:=Kd.at_int HSz7_0 (ji4) p102 q102
 cases e102
 have hn102_0:ad102.block ≠ g:=Nat.ne_of_lt (Nat.lt_of_lt_of_le (by have:=World.block_lt_of_cell? _ _ hx102_0;first | rwa [add_block] at this | exact this) (IsS62.ge HI0.out))
 replace hx102_0:=pw_cell_below HB.out hx102_0
 replace hx102_0:=(cell_far (p:=⟨g,1,none⟩) (by first | (rw [add_block];exact hn102_0) | (show (Addr.add _ _).block ≠ _;rw [add_block];exact hn102_0) | exact hn102_0) (.int .i64 (wrap64 (s0_1 + 1)))).trans hx102_0
 (try have hy102_0:=fun (n_:Nat) => (show (((w.drewN n_).setCell ⟨g,1,none⟩ (.int .i64 (wrap64 (s0_1 + 1))))).cell? _ = some _ from hx102_0))
 clear hn102_0
 replace p102:=eq_true p102
 replace q102:=eq_true q102
 go_enter Tryd.func54,Tryd.ntmps54
 go_wp2
 repeat (go_quiet (fail);try go_wp2)
 go_ret
 exact ⟨by first | rfl | (simp [errW_none,errW_some] <;> rfl) | (simp only [← hji4];first | rfl | (simp [errW_none,errW_some] <;> rfl)) | (simp [*,errW_none,errW_some] <;> rfl) | (exfalso;simp_all;done),q76_,q60_,q77_⟩
def spec_l1Rd_below.f (s0_0:List Int) (s0_1:Int) (a1:Int):Option (Int × Int):=if a1 ≤ 1 then (some (0,s0_1)) else (if a1 ≤ 256 then ((spec_l1Rd_next.f s0_0 s0_1).bind fun bt103 => (if a1 = 0 then (none) else (some (Int.tmod bt103.1 a1,bt103.2)))) else ((spec_l1Rd_next.f s0_0 s0_1).bind fun bt105 => ((spec_l1Rd_next.f s0_0 bt105.2).bind fun bt107 => (if a1 = 0 then (none) else (some (Int.tmod (wrap64 ((wrap64 (bt105.1 * 256)) + bt107.1)) a1,bt107.2))))))
theorem spec_l1Rd_below.calls (g:Nat) (s0_0:List Int) (s0_1:Int) (a1:Int) (r1:Int) (r2:Int) (w0 w:World) (hI:IsS62 w0 w g s0_0 s0_1) (hB:Below w0.heap.size w0 w) (h:spec_l1Rd_below.f s0_0 s0_1 a1 = some (r1,r2)) :
  Calls Tryd.prog 30 #[.pointer (some ⟨g,0,none⟩),.int .i64 a1] w fun e w' => e = .returned (.int .i64 r1) ∧ IsS62 w0 w' g s0_0 r2 ∧ Below w0.heap.size w0 w' ∧ KeepBut w w' g none:=by
 have HI0:=Aside0.mk hI
 have HK:=Aside0.mk (KeepBut.refl w g none)
 have HL:=Aside0.mk hB.size
 clear hI
 have HW0:=Aside0.mk hB.size
 have HB:=Aside0.mk hB
 clear hB
 have H:=h;unfold spec_l1Rd_below.f at H
 clear h
 by_cases c3:a1 ≤ 1
 ·rw [if_pos c3] at H
  have c3b0:=decide_eq_true c3
  clear c3
  simp only [Option.some.injEq,Prod.mk.injEq] at H
  obtain ⟨rfl,rfl⟩:=H
  go_enter Tryd.func30,Tryd.ntmps30
  go_wp2
  go_ret
  exact ⟨q84_,q76_,q60_,q77_⟩
 rw [if_neg c3] at H
 have c3b0:=decide_eq_false c3
 clear c3
 by_cases c4:a1 ≤ 256
 ·rw [if_pos c4] at H
  have c4b0:=decide_eq_true c4
  clear c4
  replace H:=Option.bind_eq_some_iff.mp H
  obtain ⟨⟨t103,t104⟩,A50,H⟩:=H
  try dsimp -simprocs -eta only at H
  have A5:=Aside0.mk A50
  clear A50
  by_cases c6:a1 = 0
  ·rw [if_pos c6] at H
   exact absurd H (by simp)
  rw [if_neg c6] at H
  have c6b0:(a1 == 0) = false:=beq_eq_false_iff_ne.mpr c6
  have c6b1:(a1 != 0) = true:=bne_iff_ne.mpr c6
  simp only [Option.some.injEq,Prod.mk.injEq] at H
  obtain ⟨rfl,rfl⟩:=H
  go_enter Tryd.func30,Tryd.ntmps30
  go_wp2_with (first | ((with_reducible refine gate_callee (f:=54) rfl ?_);refine goesL_ (some 11) rfl rfl Tryd.func54 (by kernel_rfl) rfl #[.pointer (some ⟨g,0,none⟩)] rfl q82_ ?_;(with_reducible refine (spec_l1Rd_next.calls g s0_0 s0_1 t103 t104 w0 _ ?side1 ?side2 A5.out).mono ?_);(case side1 => exact q128_);(case side2 => exact q124_);rintro e w7 ⟨rfl,hi,hb,hk⟩;refine ⟨_,rfl,?_⟩;have n0_:=Aside0.mk (KeepBut.trans q77_ hk (.inl rfl));have n1_:=Aside0.mk (hb);have n2_:=Aside0.mk (hi);clear HK;clear HB;clear HI0;have HK:=n0_;have HB:=n1_;have HI0:=n2_;clear n0_ n1_ n2_;(try clear hb);(try clear hk);(try clear hi)))
  go_ret
  exact ⟨q84_,q76_,q60_,q77_⟩
 rw [if_neg c4] at H
 have c4b0:=decide_eq_false c4
 clear c4
 replace H:=Option.bind_eq_some_iff.mp H
 obtain ⟨⟨t105,t106⟩,A80,H⟩:=H
 try dsimp -simprocs -eta only at H
 have A8:=Aside0.mk A80
 clear A80
 replace H:=Option.bind_eq_some_iff.mp H
 obtain ⟨⟨t107,t108⟩,A90,H⟩:=H
 try dsimp -simprocs -eta only at H
 have A9:=Aside0.mk A90
 clear A90
 by_cases c10:a1 = 0
 ·rw [if_pos c10] at H
  exact absurd H (by simp)
 rw [if_neg c10] at H
 have c10b0:(a1 == 0) = false:=beq_eq_false_iff_ne.mpr c10
 have c10b1:(a1 != 0) = true:=bne_iff_ne.mpr c10
 simp only [Option.some.injEq,Prod.mk.injEq] at H
 obtain ⟨rfl,rfl⟩:=H
 go_enter Tryd.func30,Tryd.ntmps30
 go_wp2_with (first | ((with_reducible refine gate_callee (f:=54) rfl ?_);refine goesL_ (some 15) rfl rfl Tryd.func54 (by kernel_rfl) rfl #[.pointer (some ⟨g,0,none⟩)] rfl q82_ ?_;(with_reducible refine (spec_l1Rd_next.calls g s0_0 s0_1 t105 t106 w0 _ ?side1 ?side2 A8.out).mono ?_);(case side1 => exact q128_);(case side2 => exact q124_);rintro e w11 ⟨rfl,hi,hb,hk⟩;refine ⟨_,rfl,?_⟩;have n0_:=Aside0.mk (KeepBut.trans q77_ hk (.inl rfl));have n1_:=Aside0.mk (hb);have n2_:=Aside0.mk (hi);clear HK;clear HB;clear HI0;have HK:=n0_;have HB:=n1_;have HI0:=n2_;clear n0_ n1_ n2_;(try clear hb);(try clear hk);(try clear hi)) | ((with_reducible refine gate_callee (f:=54) rfl ?_);refine goesL_ (some 19) rfl rfl Tryd.func54 (by kernel_rfl) rfl #[.pointer (some ⟨g,0,none⟩)] rfl q82_ ?_;(with_reducible refine (spec_l1Rd_next.calls g s0_0 t106 t107 t108 w0 _ ?side1 ?side2 A9.out).mono ?_);(case side1 => exact q128_);(case side2 => exact q124_);rintro e w12 ⟨rfl,hi,hb,hk⟩;refine ⟨_,rfl,?_⟩;have n0_:=Aside0.mk (KeepBut.trans q77_ hk (.inl rfl));have n1_:=Aside0.mk (hb);have n2_:=Aside0.mk (hi);clear HK;clear HB;clear HI0;have HK:=n0_;have HB:=n1_;have HI0:=n2_;clear n0_ n1_ n2_;(try clear hb);(try clear hk);(try clear hi)))
 go_ret
 exact ⟨q84_,q76_,q60_,q77_⟩
def spec_l1Rd_once.f (s0_0:List Int) (s0_1:Int) (a1:Int):Option (Bool × Int):=(spec_l1Rd_below.f s0_0 s0_1 a1).bind fun bt109 => (some ((bt109.1 == (wrap64 (a1 - 1))),bt109.2))
theorem spec_l1Rd_once.calls (g:Nat) (s0_0:List Int) (s0_1:Int) (a1:Int) (r1:Bool) (r2:Int) (w0 w:World) (hI:IsS62 w0 w g s0_0 s0_1) (hB:Below w0.heap.size w0 w) (h:spec_l1Rd_once.f s0_0 s0_1 a1 = some (r1,r2)) :
  Calls Tryd.prog 27 #[.pointer (some ⟨g,0,none⟩),.int .i64 a1] w fun e w' => e = .returned (.bool r1) ∧ IsS62 w0 w' g s0_0 r2 ∧ Below w0.heap.size w0 w' ∧ KeepBut w w' g none:=by
 have HI0:=Aside0.mk hI
 have HK:=Aside0.mk (KeepBut.refl w g none)
 have HL:=Aside0.mk hB.size
 clear hI
 have HW0:=Aside0.mk hB.size
 have HB:=Aside0.mk hB
 clear hB
 have H:=h;unfold spec_l1Rd_once.f at H
 clear h
 replace H:=Option.bind_eq_some_iff.mp H
 obtain ⟨⟨t109,t110⟩,A30,H⟩:=H
 try dsimp -simprocs -eta only at H
 have A3:=Aside0.mk A30
 clear A30
 simp only [Option.some.injEq,Prod.mk.injEq] at H
 obtain ⟨rfl,rfl⟩:=H
 go_enter Tryd.func27,Tryd.ntmps27
 go_wp2_with (first | ((with_reducible refine gate_callee (f:=30) rfl ?_);refine goesL_ (some 7) rfl rfl Tryd.func30 (by kernel_rfl) rfl #[.pointer (some ⟨g,0,none⟩),.int .i64 a1] rfl q82_ ?_;(with_reducible refine (spec_l1Rd_below.calls g s0_0 s0_1 a1 t109 t110 w0 _ ?side1 ?side2 A3.out).mono ?_);(case side1 => exact q128_);(case side2 => exact q124_);rintro e w4 ⟨rfl,hi,hb,hk⟩;refine ⟨_,rfl,?_⟩;have n0_:=Aside0.mk (KeepBut.trans q77_ hk (.inl rfl));have n1_:=Aside0.mk (hb);have n2_:=Aside0.mk (hi);clear HK;clear HB;clear HI0;have HK:=n0_;have HB:=n1_;have HI0:=n2_;clear n0_ n1_ n2_;(try clear hb);(try clear hk);(try clear hi)))
 go_ret
 exact ⟨q84_,q76_,q60_,q77_⟩
def spec_l1Rd_args.l0:Nat → ByteArray → Int → List Int → Int → Option (ByteArray × Int)
 | 0,_,_,_,_ => none
 | k + 1,x3,x4,x1000,x1001 => if x4 > 0 then (if x3.toList = ([]:List UInt8) then ((some (([(⟨#[97]⟩:ByteArray),(⟨#[91,104,108,43,93]⟩:ByteArray),(⟨#[49,43,50]⟩:ByteArray),(⟨#[120,32,121]⟩:ByteArray),(⟨#[36,49,50]⟩:ByteArray),(⟨#[110,122]⟩:ByteArray)]:List ByteArray):List ByteArray)).bind fun y113 => ((spec_l1Rd_below.f x1000 x1001 6).bind fun bt116 => (if 0 ≤ bt116.1 then (if bt116.1 < (y113.length:Int) then (if x3.size + (rdOf ByteArray.empty y113 bt116.1).size ≤ 9223372036854775807 then (spec_l1Rd_args.l0 k (x3 ++ (rdOf ByteArray.empty y113 bt116.1)) (wrap64 (x4 - 1)) x1000 bt116.2) else (none)) else (none)) else (none)))) else (if x3.size + 1 ≤ 9223372036854775807 then ((some (([(⟨#[97]⟩:ByteArray),(⟨#[91,104,108,43,93]⟩:ByteArray),(⟨#[49,43,50]⟩:ByteArray),(⟨#[120,32,121]⟩:ByteArray),(⟨#[36,49,50]⟩:ByteArray),(⟨#[110,122]⟩:ByteArray)]:List ByteArray):List ByteArray)).bind fun y119 => ((spec_l1Rd_below.f x1000 x1001 6).bind fun bt122 => (if 0 ≤ bt122.1 then (if bt122.1 < (y119.length:Int) then (if (x3 ++ (⟨#[44]⟩:ByteArray)).size + (rdOf ByteArray.empty y119 bt122.1).size ≤ 9223372036854775807 then (spec_l1Rd_args.l0 k ((x3 ++ (⟨#[44]⟩:ByteArray)) ++ (rdOf ByteArray.empty y119 bt122.1)) (wrap64 (x4 - 1)) x1000 bt122.2) else (none)) else (none)) else (none)))) else (none))) else (some (x3,x1001))
def spec_l1Rd_args.f (k:Nat) (s0_0:List Int) (s0_1:Int):Option (ByteArray × Int):=(spec_l1Rd_below.f s0_0 s0_1 3).bind fun bt111 => (spec_l1Rd_args.l0 k (⟨#[]⟩:ByteArray) bt111.1 s0_0 bt111.2)
theorem spec_l1Rd_args.calls (k:Nat) (g:Nat) (s0_0:List Int) (s0_1:Int) (r1:ByteArray) (r2:Int) (w0 w:World) (hI:IsS62 w0 w g s0_0 s0_1) (hB:Below w0.heap.size w0 w) (h:spec_l1Rd_args.f k s0_0 s0_1 = some (r1,r2)) :
  Calls Tryd.prog 29 #[.pointer (some ⟨g,0,none⟩)] w fun e w' => e = .returned (.string r1) ∧ IsS62 w0 w' g s0_0 r2 ∧ Below w0.heap.size w0 w' ∧ KeepBut w w' g none:=by
 have HI0:=Aside0.mk hI
 have HK:=Aside0.mk (KeepBut.refl w g none)
 have HL:=Aside0.mk hB.size
 clear hI
 have HW0:=Aside0.mk hB.size
 have HB:=Aside0.mk hB
 clear hB
 have H:=h;unfold spec_l1Rd_args.f at H
 clear h
 replace H:=Option.bind_eq_some_iff.mp H
 obtain ⟨⟨t111,t112⟩,A20,H⟩:=H
 try dsimp -simprocs -eta only at H
 have A2:=Aside0.mk A20
 clear A20
 have H':=Aside0.mk H
 clear H
 go_enter Tryd.func29,Tryd.ntmps29
 go_wp2_with (first | ((with_reducible refine gate_callee (f:=30) rfl ?_);refine goesL_ (some 6) rfl rfl Tryd.func30 (by kernel_rfl) rfl #[.pointer (some ⟨g,0,none⟩),.int .i64 3] rfl q82_ ?_;(with_reducible refine (spec_l1Rd_below.calls g s0_0 s0_1 3 t111 t112 w0 _ ?side1 ?side2 A2.out).mono ?_);(case side1 => exact q128_);(case side2 => exact q124_);rintro e w3 ⟨rfl,hi,hb,hk⟩;refine ⟨_,rfl,?_⟩;have n0_:=Aside0.mk (KeepBut.trans q77_ hk (.inl rfl));have n1_:=Aside0.mk (hb);have n2_:=Aside0.mk (hi);clear HK;clear HB;clear HI0;have HK:=n0_;have HB:=n1_;have HI0:=n2_;clear n0_ n1_ n2_;(try clear hb);(try clear hk);(try clear hi)))
 go_loopg [3,4] k (fun kq v3 v4 w' => ∃ (x3_1:ByteArray) (x4_1:Int) (x1001_1:Int),v3 = .string x3_1 ∧ v4 = .int .i64 x4_1 ∧ Aside0 (spec_l1Rd_args.l0 kq x3_1 x4_1 s0_0 x1001_1 = some (r1,r2)) ∧ Aside0 (kq ≤ k) ∧ Aside0 (IsS62 w0 w' g s0_0 x1001_1) ∧ Aside0 (KeepBut w w' g none) ∧ Aside0 (Below w0.heap.size w0 w'))
 case atStart => exact ⟨((⟨#[]⟩:ByteArray)),(t111),(t112),q101_,q101_,H',⟨Nat.le_refl _⟩,⟨q76_⟩,⟨q77_⟩,⟨q60_⟩⟩
 clear H'
 try clear c2
 try clear p2
 try clear c3
 obtain ⟨x3_1,x4_1,x1001_1,rfl,rfl,HA,HK1,HI0,HK,HB⟩:=hrel
 cases gk with
 | zero => exact absurd HA.out (by simp [spec_l1Rd_args.l0])
 | succ k1 =>
  have H:=HA.out
  clear HA
  simp only [spec_l1Rd_args.l0] at H
  by_cases c4:x4_1 > 0
  ·rw [if_pos c4] at H
   have c4b0:decide (0 < x4_1) = true:=decide_eq_true c4
   clear c4
   by_cases c5:x3_1.toList = ([]:List UInt8)
   ·rw [if_pos c5] at H
    have c5b0:(x3_1.toList == ([]:List UInt8)) = true:=beq_iff_eq.mpr c5
    have c5b1:(x3_1.toList != ([]:List UInt8)) = false:=bne_eq_false_iff_eq.mpr c5
    have c5b9:x3_1.toList.isEmpty = true:=(isEmpty_beq _).trans c5b0
    clear c5
    obtain ⟨y113,hy113⟩:∃ y_:List ByteArray,y_ = (([(⟨#[97]⟩:ByteArray),(⟨#[91,104,108,43,93]⟩:ByteArray),(⟨#[49,43,50]⟩:ByteArray),(⟨#[120,32,121]⟩:ByteArray),(⟨#[36,49,50]⟩:ByteArray),(⟨#[110,122]⟩:ByteArray)]:List ByteArray)):=⟨_,rfl⟩
    replace H:((spec_l1Rd_below.f s0_0 x1001_1 6).bind fun bt116 => (if 0 ≤ bt116.1 then (if bt116.1 < (y113.length:Int) then (if x3_1.size + (rdOf ByteArray.empty y113 bt116.1).size ≤ 9223372036854775807 then (spec_l1Rd_args.l0 k1 (x3_1 ++ (rdOf ByteArray.empty y113 bt116.1)) (wrap64 (x4_1 - 1)) s0_0 bt116.2) else (none)) else (none)) else (none))) = some (r1,r2):=by first | (rw [hy113];exact H) | exact H
    have Ny113:=Aside0.mk hy113
    clear hy113
    replace H:=Option.bind_eq_some_iff.mp H
    obtain ⟨⟨t116,t117⟩,A60,H⟩:=H
    try dsimp -simprocs -eta only at H
    have A6:=Aside0.mk A60
    clear A60
    by_cases c7:0 ≤ t116
    rotate_left
    ·rw [if_neg c7] at H
     exact absurd H (by simp)
    rw [if_pos c7] at H
    have c7b0:=decide_eq_true c7
    clear c7
    by_cases c8:t116 < (y113.length:Int)
    rotate_left
    ·rw [if_neg c8] at H
     exact absurd H (by simp)
    rw [if_pos c8] at H
    have c8b0:=decide_eq_true c8
    clear c8
    by_cases c9:x3_1.size + (rdOf ByteArray.empty y113 t116).size ≤ 9223372036854775807
    rotate_left
    ·rw [if_neg c9] at H
     exact absurd H (by simp)
    rw [if_pos c9] at H
    have c9b0:=eq_true c9
    have c9b1:=decide_eq_true c9
    try have c9b2:(9223372036854775807 < x3_1.size + (rdOf ByteArray.empty y113 t116).size) = False:=eq_false (Nat.not_lt.2 c9)
    have H':=Aside0.mk H
    clear H
    go_wp2_with (first | ((with_reducible refine gate_dst (N:=16) rfl ?_);refine Kd.R_lit Kd.string _ 9 ?hg (N:=16) ?hd (xs:=([(⟨#[97]⟩:ByteArray),(⟨#[91,104,108,43,93]⟩:ByteArray),(⟨#[49,43,50]⟩:ByteArray),(⟨#[120,32,121]⟩:ByteArray),(⟨#[36,49,50]⟩:ByteArray),(⟨#[110,122]⟩:ByteArray)]:List ByteArray)) (inner:=[.string (⟨#[97]⟩:ByteArray),.string (⟨#[91,104,108,43,93]⟩:ByteArray),.string (⟨#[49,43,50]⟩:ByteArray),.string (⟨#[120,32,121]⟩:ByteArray),.string (⟨#[36,49,50]⟩:ByteArray),.string (⟨#[110,122]⟩:ByteArray)]) (ok:=fun _ => True) (okp:=fun _ => True) ?hr ?hp (fun _ hk => hk) trivial (Below.refl _ _) (Nat.le_refl _) (by simp) ?_;(case hd => rfl);(case hg => rfl);(case hr => exact q130_);(case hp => exact q117_);intro v114 w10 ho11 hb hg_ hnew_;clear hg_ hnew_;(first | rw [← Ny113.out] at ho11 | (simp only [Int.reduceToNat] at ho11;rw [← Ny113.out] at ho11));have n0_:=Aside0.mk (Kd.R_lower ho11 (keep_size (w:=w) (g:=g) (row:=none) q77_));have n1_:=Aside0.mk (IsS62.below q76_ hb);have n2_:=Aside0.mk (KeepBut.trans q77_ (KeepBut.of_below hb g none) (.inl rfl));have n3_:=Aside0.mk (below_step q60_ hb);clear HI0;clear HK;clear HB;have HO115:=n0_;have HI0:=n1_;have HK:=n2_;have HB:=n3_;clear n0_ n1_ n2_ n3_;clear hb ho11) | ((with_reducible refine gate_callee (f:=30) rfl ?_);refine goesL_ (some 18) rfl rfl Tryd.func30 (by kernel_rfl) rfl #[.pointer (some ⟨g,0,none⟩),.int .i64 6] rfl q82_ ?_;(with_reducible refine (spec_l1Rd_below.calls g s0_0 x1001_1 6 t116 t117 w0 _ ?side1 ?side2 A6.out).mono ?_);(case side1 => exact q128_);(case side2 => exact q124_);rintro e w12 ⟨rfl,hi,hb,hk⟩;refine ⟨_,rfl,?_⟩;have n0_:=Aside0.mk (Kd.R_mono (Kd.R_keep (IsS62.apart (show IsS62 w0 _ g s0_0 x1001_1 from by repeat (first | (with_reducible first | exact HI0.out | apply IsS62.alloc | apply IsS62.drewN | apply IsS62.drew | apply IsS62.set_1) | exact HI0.out)) (by (with_reducible repeat (first | apply Kd.R_alloc | apply Kd.R_drewN | apply Kd.R_drew));exact HO115.out) (by decide)) hk (fun _ h => h.2)) (fun _ h => h.1));have n1_:=Aside0.mk (KeepBut.trans q77_ hk (.inl rfl));have n2_:=Aside0.mk (hb);have n3_:=Aside0.mk (hi);clear HO115;clear HK;clear HB;clear HI0;have HO115:=n0_;have HK:=n1_;have HB:=n2_;have HI0:=n3_;clear n0_ n1_ n2_ n3_;(try clear hb);(try clear hk);(try clear hi);obtain ⟨Ao13,co13,eo13⟩:=Kd.R_slice HO115.out;subst eo13;have p118:0 ≤ (t116:Int):=of_decide_eq_true q113_;have q118:t116 < (y113.length:Int):=of_decide_eq_true q113_;obtain ⟨ad118,e118,hx118_0⟩:=Kd.at_string (Kd.R_reads' HO115.out).2.2 t116 p118 q118;cases e118;replace p118:=eq_true p118;replace q118:=eq_true q118))
    go_roundg k1
    case measure => have:=HK1.out;omega
    case rel => exact ⟨(x3_1 ++ (rdOf ByteArray.empty y113 t116)),(wrap64 (x4_1 - 1)),(t117),q101_,q101_,H',⟨by have:=HK1.out;omega⟩,⟨q76_⟩,⟨q77_⟩,⟨q60_⟩⟩
   rw [if_neg c5] at H
   have c5b0:(x3_1.toList == ([]:List UInt8)) = false:=beq_eq_false_iff_ne.mpr c5
   have c5b1:(x3_1.toList != ([]:List UInt8)) = true:=bne_iff_ne.mpr c5
   have c5b9:x3_1.toList.isEmpty = false:=(isEmpty_beq _).trans c5b0
   by_cases c14:x3_1.size + 1 ≤ 9223372036854775807
   rotate_left
   ·rw [if_neg c14] at H
    exact absurd H (by simp)
   rw [if_pos c14] at H
   have c14b0:=eq_true c14
   have c14b1:=decide_eq_true c14
   try have c14b2:(9223372036854775807 < x3_1.size + 1) = False:=eq_false (Nat.not_lt.2 c14)
   obtain ⟨y119,hy119⟩:∃ y_:List ByteArray,y_ = (([(⟨#[97]⟩:ByteArray),(⟨#[91,104,108,43,93]⟩:ByteArray),(⟨#[49,43,50]⟩:ByteArray),(⟨#[120,32,121]⟩:ByteArray),(⟨#[36,49,50]⟩:ByteArray),(⟨#[110,122]⟩:ByteArray)]:List ByteArray)):=⟨_,rfl⟩
   replace H:((spec_l1Rd_below.f s0_0 x1001_1 6).bind fun bt122 => (if 0 ≤ bt122.1 then (if bt122.1 < (y119.length:Int) then (if (x3_1 ++ (⟨#[44]⟩:ByteArray)).size + (rdOf ByteArray.empty y119 bt122.1).size ≤ 9223372036854775807 then (spec_l1Rd_args.l0 k1 ((x3_1 ++ (⟨#[44]⟩:ByteArray)) ++ (rdOf ByteArray.empty y119 bt122.1)) (wrap64 (x4_1 - 1)) s0_0 bt122.2) else (none)) else (none)) else (none))) = some (r1,r2):=by first | (rw [hy119];exact H) | exact H
   have Ny119:=Aside0.mk hy119
   clear hy119
   replace H:=Option.bind_eq_some_iff.mp H
   obtain ⟨⟨t122,t123⟩,A150,H⟩:=H
   try dsimp -simprocs -eta only at H
   have A15:=Aside0.mk A150
   clear A150
   by_cases c16:0 ≤ t122
   rotate_left
   ·rw [if_neg c16] at H
    exact absurd H (by simp)
   rw [if_pos c16] at H
   have c16b0:=decide_eq_true c16
   clear c16
   by_cases c17:t122 < (y119.length:Int)
   rotate_left
   ·rw [if_neg c17] at H
    exact absurd H (by simp)
   rw [if_pos c17] at H
   have c17b0:=decide_eq_true c17
   clear c17
   by_cases c18:(x3_1 ++ (⟨#[44]⟩:ByteArray)).size + (rdOf ByteArray.empty y119 t122).size ≤ 9223372036854775807
   rotate_left
   ·rw [if_neg c18] at H
    exact absurd H (by simp)
   rw [if_pos c18] at H
   have c18b0:=eq_true c18
   (try (have c18b0e:=c18b0;simp only [ByteArray.size_append,ByteArray.size_extract,Nat.min_self,Nat.sub_zero,show (⟨#[44]⟩:ByteArray).size = 1 from rfl] at c18b0e))
   have c18b1:=decide_eq_true c18
   (try (have c18b1e:=c18b1;simp only [ByteArray.size_append,ByteArray.size_extract,Nat.min_self,Nat.sub_zero,show (⟨#[44]⟩:ByteArray).size = 1 from rfl] at c18b1e))
   try have c18b2:(9223372036854775807 < (x3_1 ++ (⟨#[44]⟩:ByteArray)).size + (rdOf ByteArray.empty y119 t122).size) = False:=eq_false (Nat.not_lt.2 c18)
   (try (have c18b2e:=c18b2;simp only [ByteArray.size_append,ByteArray.size_extract,Nat.min_self,Nat.sub_zero,show (⟨#[44]⟩:ByteArray).size = 1 from rfl] at c18b2e))
   have H':=Aside0.mk H
   clear H
   go_wp2_with (first | ((with_reducible refine gate_dst (N:=16) rfl ?_);refine Kd.R_lit Kd.string _ 9 ?hg (N:=16) ?hd (xs:=([(⟨#[97]⟩:ByteArray),(⟨#[91,104,108,43,93]⟩:ByteArray),(⟨#[49,43,50]⟩:ByteArray),(⟨#[120,32,121]⟩:ByteArray),(⟨#[36,49,50]⟩:ByteArray),(⟨#[110,122]⟩:ByteArray)]:List ByteArray)) (inner:=[.string (⟨#[97]⟩:ByteArray),.string (⟨#[91,104,108,43,93]⟩:ByteArray),.string (⟨#[49,43,50]⟩:ByteArray),.string (⟨#[120,32,121]⟩:ByteArray),.string (⟨#[36,49,50]⟩:ByteArray),.string (⟨#[110,122]⟩:ByteArray)]) (ok:=fun _ => True) (okp:=fun _ => True) ?hr ?hp (fun _ hk => hk) trivial (Below.refl _ _) (Nat.le_refl _) (by simp) ?_;(case hd => rfl);(case hg => rfl);(case hr => exact q130_);(case hp => exact q117_);intro v120 w19 ho20 hb hg_ hnew_;clear hg_ hnew_;(first | rw [← Ny119.out] at ho20 | (simp only [Int.reduceToNat] at ho20;rw [← Ny119.out] at ho20));have n0_:=Aside0.mk (Kd.R_lower ho20 (keep_size (w:=w) (g:=g) (row:=none) q77_));have n1_:=Aside0.mk (IsS62.below q76_ hb);have n2_:=Aside0.mk (KeepBut.trans q77_ (KeepBut.of_below hb g none) (.inl rfl));have n3_:=Aside0.mk (below_step q60_ hb);clear HI0;clear HK;clear HB;have HO121:=n0_;have HI0:=n1_;have HK:=n2_;have HB:=n3_;clear n0_ n1_ n2_ n3_;clear hb ho20) | ((with_reducible refine gate_callee (f:=30) rfl ?_);refine goesL_ (some 18) rfl rfl Tryd.func30 (by kernel_rfl) rfl #[.pointer (some ⟨g,0,none⟩),.int .i64 6] rfl q82_ ?_;(with_reducible refine (spec_l1Rd_below.calls g s0_0 x1001_1 6 t122 t123 w0 _ ?side1 ?side2 A15.out).mono ?_);(case side1 => exact q128_);(case side2 => exact q124_);rintro e w21 ⟨rfl,hi,hb,hk⟩;refine ⟨_,rfl,?_⟩;have n0_:=Aside0.mk (Kd.R_mono (Kd.R_keep (IsS62.apart (show IsS62 w0 _ g s0_0 x1001_1 from by repeat (first | (with_reducible first | exact HI0.out | apply IsS62.alloc | apply IsS62.drewN | apply IsS62.drew | apply IsS62.set_1) | exact HI0.out)) (by (with_reducible repeat (first | apply Kd.R_alloc | apply Kd.R_drewN | apply Kd.R_drew));exact HO121.out) (by decide)) hk (fun _ h => h.2)) (fun _ h => h.1));have n1_:=Aside0.mk (KeepBut.trans q77_ hk (.inl rfl));have n2_:=Aside0.mk (hb);have n3_:=Aside0.mk (hi);clear HO121;clear HK;clear HB;clear HI0;have HO121:=n0_;have HK:=n1_;have HB:=n2_;have HI0:=n3_;clear n0_ n1_ n2_ n3_;(try clear hb);(try clear hk);(try clear hi);obtain ⟨Ao22,co22,eo22⟩:=Kd.R_slice HO121.out;subst eo22;have p124:0 ≤ (t122:Int):=of_decide_eq_true q113_;have q124:t122 < (y119.length:Int):=of_decide_eq_true q113_;obtain ⟨ad124,e124,hx124_0⟩:=Kd.at_string (Kd.R_reads' HO121.out).2.2 t122 p124 q124;cases e124;replace p124:=eq_true p124;replace q124:=eq_true q124))
   go_roundg k1
   case measure => have:=HK1.out;omega
   case rel => exact ⟨((x3_1 ++ (⟨#[44]⟩:ByteArray)) ++ (rdOf ByteArray.empty y119 t122)),(wrap64 (x4_1 - 1)),(t123),q101_,q101_,H',⟨by have:=HK1.out;omega⟩,⟨q76_⟩,⟨q77_⟩,⟨q60_⟩⟩
  rw [if_neg c4] at H
  have c4b0:decide (0 < x4_1) = false:=decide_eq_false c4
  clear c4
  simp only [Option.some.injEq,Prod.mk.injEq] at H
  obtain ⟨rfl,rfl⟩:=H
  go_wp2
  go_ret
  exact ⟨q84_,q76_,q60_,q77_⟩
end Go.Proofs.YtoiiaklmjpiejaaDoor.QFnLines
