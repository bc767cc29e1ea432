/- The machine's side of a law,written by a program of this session for this claim. -/
import Derived.Test.YtodlnnoekccmmaaGreatDoorKQq
import Derived.Test.YtodlnnoekccmmaaGreatDoorKQFnMarksx0
import Derived.Test.YtodlnnoekccmmaaGreatDoorKQFnMarksx7
import Derived.Test.YtodlnnoekccmmaaGreatDoorKQFnMarksx8
import Derived.Test.YtodlnnoekccmmaaGreatDoorKQFnMarksx10
import Derived.Test.YtodlnnoekccmmaaGreatDoorKQFnMarksx11
namespace Go.Proofs.YtodlnnoekccmmaaGreatDoor.QFnMarks
open Go.Proofs.YtodlnnoekccmmaaGreatDoor.Qq
open Go.RowKit Go.Proofs.YtodlnnoekccmmaaGreatDoor.LibX Go.Proofs.YtodlnnoekccmmaaGreatDoor.LibE Go.Proofs.YtodlnnoekccmmaaGreatDoor.LibCB Go.Proofs.YtodlnnoekccmmaaGreatDoorW.PrintWords Go.Proofs.YtodlnnoekccmmaaGreatDoorW.PrintLast Go.Proofs.YtodlnnoekccmmaaGreatDoorW.PrintMore
attribute [local go_sem] max2_int min2_int max_two min_two max_three min_three max_four min_four   -- for this text's walks alone
set_option maxHeartbeats 8000000
set_option maxRecDepth 100000
set_option linter.unusedVariables false
set_option linter.unusedSimpArgs false
/-- A state of type 96 at block g of W;what its slices lead to came in by w0. -/
def IsS96 (w0 W:World) (g:Nat) (f0:List Int) (f1:Int):Prop:=∃ A0 c0,W.heap[g]? = some (.cells #[.slice A0 f0.length c0,.int .i64 f1] 96 (0,0)) ∧ w0.heap.size ≤ g ∧ Kd.C (Kd.int .u8) w0 A0 f0.length f0
theorem IsS96.grown {w0 W:World} {g:Nat} {f0:List Int} {f1:Int} {W1:World} {row:Option Nat} (h:IsS96 w0 W g f0 f1) (hw:W.grownBy W1 row) (hne:some g ≠ row):IsS96 w0 W1 g f0 f1:=by
 obtain ⟨A0,c0,hb,hg,hr0⟩:=h
 exact ⟨A0,c0,blk_grown hb hw hne,hg,hr0⟩
theorem IsS96.below {w0 W:World} {g:Nat} {f0:List Int} {f1:Int} {W1:World} (h:IsS96 w0 W g f0 f1) (hw:Below W.heap.size W W1):IsS96 w0 W1 g f0 f1:=h.grown (grown_of_below hw none) (by simp)
theorem IsS96.alloc {w0 W:World} {g:Nat} {f0:List Int} {f1:Int} (h:IsS96 w0 W g f0 f1) (o:Obj):IsS96 w0 (W.alloc o) g f0 f1:=h.below (below_alloc (Below.refl _ _) o)
theorem IsS96.drewN {w0 W:World} {g:Nat} {f0:List Int} {f1:Int} (h:IsS96 w0 W g f0 f1) (m:Nat):IsS96 w0 (W.drewN m) g f0 f1:=h
theorem IsS96.apart {w0 W:World} {g:Nat} {f0:List Int} {f1:Int} {α:Type} {d:Kd α} {e:Nat} {base:Nat} {ok:Nat → Prop} {v:Value} {xs:List α} (h:IsS96 w0 W g f0 f1) (ho:d.R e W base ok v xs) (ht:∀ q,q ∈ e :: d.E → q ≠ 96):d.R e W base (fun k => ok k ∧ k ≠ g) v xs:=by
 obtain ⟨A0,c0,hb,hg,hr0⟩:=h
 exact Kd.R_types ho hb ht
theorem IsS96.own_ne {w0 W:World} {g:Nat} {f0:List Int} {f1:Int} {α:Type} {d:Kd α} {e:Nat} {base:Nat} {ok:Nat → Prop} {v:Value} {xs:List α} (h:IsS96 w0 W g f0 f1) (ho:d.R e W base ok v xs) (ht:e ≠ 96):some g ≠ v.ownBlock:=by
 obtain ⟨A0,c0,hb,hg,hr0⟩:=h
 exact Kd.R_ne ho hb ht
theorem IsS96.lt {w0 W:World} {g:Nat} {f0:List Int} {f1:Int} (h:IsS96 w0 W g f0 f1):g < W.heap.size:=by
 obtain ⟨A0,c0,hb,hg,hr0⟩:=h
 exact blk_lt hb
theorem IsS96.ge {w0 W:World} {g:Nat} {f0:List Int} {f1:Int} (h:IsS96 w0 W g f0 f1):w0.heap.size ≤ g:=by
 obtain ⟨A0,c0,hb,hg,hr0⟩:=h
 exact hg
theorem IsS96.far {w0 W:World} {g:Nat} {f0:List Int} {f1:Int} {p:Addr} (h:IsS96 w0 W g f0 f1) (hne:g ≠ p.block) (u:Value):IsS96 w0 (W.setCell p u) g f0 f1:=by
 obtain ⟨A0,c0,hb,hg,hr0⟩:=h
 exact ⟨A0,c0,blk_far hb hne u,hg,hr0⟩
theorem cellS96_0 {W:World} {g:Nat} {A0:Option Addr} {c0:Nat} {f0:List Int} {f1:Int} (h:W.heap[g]? = some (.cells #[.slice A0 f0.length c0,.int .i64 f1] 96 (0,0))):W.cell? ⟨g,0,none⟩ = some (.slice A0 f0.length c0):=(blk_cell h 0).trans rfl
theorem cellS96_1 {W:World} {g:Nat} {A0:Option Addr} {c0:Nat} {f0:List Int} {f1:Int} (h:W.heap[g]? = some (.cells #[.slice A0 f0.length c0,.int .i64 f1] 96 (0,0))):W.cell? ⟨g,1,none⟩ = some (.int .i64 f1):=(blk_cell h 1).trans rfl
theorem IsS96.set_1 {w0 W:World} {g:Nat} {f0:List Int} {f1:Int} (h:IsS96 w0 W g f0 f1) (x:Int):IsS96 w0 (W.setCell ⟨g,1,none⟩ (.int .i64 x)) g f0 x:=by
 obtain ⟨A0,c0,hb,hg,hr0⟩:=h
 exact ⟨A0,c0,by simpa using blk_set hb 1 (.int .i64 x),hg,hr0⟩
def spec_l1Open.f (l0:List Int):Option (List Int × Int):=some (l0,0)
theorem spec_l1Open.calls (A0:Option Addr) (c0:Nat) (l0:List Int) (r1:List Int) (r2:Int) (w0 w:World) (hB:Below w0.heap.size w0 w) (hr0:Kd.C (Kd.int .u8) w0 A0 l0.length l0) (hc0:l0.length ≤ c0) (h:spec_l1Open.f l0 = some (r1,r2)) :
  Calls Tryz.prog 43 #[.slice A0 l0.length c0] w fun e w' => ∃ g_:Nat,e = .returned (.pointer (some ⟨g_,0,none⟩)) ∧ IsS96 w0 w' g_ r1 r2 ∧ Below w0.heap.size w0 w' ∧ Below w.heap.size w w':=by
 have hu96:=Tryz.underlying96
 have HR0:=Aside0.mk hr0
 have HC0:=Aside0.mk hc0
 clear hr0 hc0
 have HBW:=Aside0.mk (Below.refl w.heap.size w)
 have HW0:=Aside0.mk hB.size
 have HB:=Aside0.mk hB
 clear hB
 have H:(some (l0,0)) = some (r1,r2):=h
 clear h
 simp only [Option.some.injEq,Prod.mk.injEq] at H
 obtain ⟨rfl,rfl⟩:=H
 go_enter Tryz.func43,Tryz.ntmps43
 go_wp2_with (first | ((with_reducible refine gate_dst (N:=5) rfl ?_);refine box_event ?hg (N:=5) ?hd (cs:=#[.slice A0 l0.length c0,.int .i64 0]) (t:=96) ?hr ?_;(case hd => rfl);(case hg => rfl);(case hr => exact q153_);intro gb534 hg w2 hbox hb;have n0_:=Aside0.mk (below_step HBW.out hb);have n1_:=Aside0.mk (below_step q70_ hb);have n2_:=Aside0.mk (hbox);have n3_:=Aside0.mk ((q45_:w.heap.size ≤ gb534));have n4_:=Aside0.mk ((Nat.le_trans HW0.out (q45_:w.heap.size ≤ gb534):w0.heap.size ≤ gb534));clear HBW;clear HB;have HBW:=n0_;have HB:=n1_;have BK534:=n2_;have GW534:=n3_;have GE534:=n4_;clear n0_ n1_ n2_ n3_ n4_;clear hb hbox hg))
 go_ret
 exact ⟨_,rfl,(show IsS96 w0 _ gb534 l0 0 from ⟨_,_,by (with_reducible repeat (first | refine blk_drewN ?_ _ | refine blk_drew ?_ | refine blk_alloc ?_ _));exact BK534.out,GE534.out,HR0.out⟩),by repeat (first | (with_reducible first | exact HB.out | apply below_alloc | apply pw_below_drewN | apply below_drew1 | refine below_set ?_ GE534.out) | exact HB.out),by repeat (first | (with_reducible first | exact HBW.out | apply below_alloc | apply pw_below_drewN | apply below_drew1 | refine below_set ?_ GW534.out) | exact HBW.out)⟩
def spec_l1Rd_next.f (s0_0:List Int) (s0_1:Int):Option (Int × Int):=if s0_1 ≥ (s0_0.length:Int) then (some (0,s0_1)) else (if 0 ≤ (wrap64 ((wrap64 (s0_1 + 1)) - 1)) then (if (wrap64 ((wrap64 (s0_1 + 1)) - 1)) < (s0_0.length:Int) then (some (wrap64 (rd s0_0 (wrap64 ((wrap64 (s0_1 + 1)) - 1))),wrap64 (s0_1 + 1))) else (none)) else (none))
theorem spec_l1Rd_next.calls (g:Nat) (s0_0:List Int) (s0_1:Int) (r1:Int) (r2:Int) (w0 w:World) (hI:IsS96 w0 w g s0_0 s0_1) (hB:Below w0.heap.size w0 w) (h:spec_l1Rd_next.f s0_0 s0_1 = some (r1,r2)) :
  Calls Tryz.prog 91 #[.pointer (some ⟨g,0,none⟩)] w fun e w' => e = .returned (.int .i64 r1) ∧ IsS96 w0 w' g s0_0 r2 ∧ Below w0.heap.size w0 w' ∧ KeepBut w w' g none:=by
 have HI0:=Aside0.mk hI
 have HK:=Aside0.mk (KeepBut.refl w g none)
 have HL:=Aside0.mk hB.size
 clear hI
 have HW0:=Aside0.mk hB.size
 have HB:=Aside0.mk hB
 clear hB
 have H:=h;unfold spec_l1Rd_next.f at H
 clear h
 by_cases c2:s0_1 ≥ (s0_0.length:Int)
 ·rw [if_pos c2] at H
  have c2b0:decide ((s0_0.length:Int) ≤ s0_1) = true:=decide_eq_true c2
  clear c2
  simp only [Option.some.injEq,Prod.mk.injEq] at H
  obtain ⟨rfl,rfl⟩:=H
  obtain ⟨ASz3_0,cSz3_0,HGz3,hgz3,HSz3_0⟩:=HI0.out
  have hcz3_0:=cellS96_0 HGz3
  have hcz3_1:=cellS96_1 HGz3
  have hfz3_1:=blk_frozen HGz3 1
  clear HGz3 hgz3
  go_enter Tryz.func91,Tryz.ntmps91
  go_wp2
  repeat (go_quiet (fail);try go_wp2)
  go_ret
  exact ⟨q75_,q62_,q44_,q63_⟩
 rw [if_neg c2] at H
 have c2b0:decide ((s0_0.length:Int) ≤ s0_1) = false:=decide_eq_false c2
 clear c2
 obtain ⟨ji4,hji4⟩:∃ j_:Int,(wrap64 ((wrap64 (s0_1 + 1)) - 1)) = j_:=⟨_,rfl⟩
 (first | rewrite [hji4] at H | simp only [hji4] at H)
 have hji4w:(IntKind.i64.wrap ((wrap64 (s0_1 + 1)) - 1)) = ji4:=(i64_w _).trans hji4
 by_cases c5:0 ≤ (ji4)
 rotate_left
 ·rw [if_neg c5] at H
  exact absurd H (by simp)
 rw [if_pos c5] at H
 have c5b0:=decide_eq_true c5
 clear c5
 by_cases c6:(ji4) < (s0_0.length:Int)
 rotate_left
 ·rw [if_neg c6] at H
  exact absurd H (by simp)
 rw [if_pos c6] at H
 have c6b0:=decide_eq_true c6
 clear c6
 simp only [Option.some.injEq,Prod.mk.injEq] at H
 obtain ⟨rfl,rfl⟩:=H
 obtain ⟨ASz7_0,cSz7_0,HGz7,hgz7,HSz7_0⟩:=HI0.out
 have hcz7_0:=cellS96_0 HGz7
 have hcz7_1:=cellS96_1 HGz7
 have hfz7_1:=blk_frozen HGz7 1
 clear HGz7 hgz7
 have p535:0 ≤ ((ji4):Int):=of_decide_eq_true q119_
 have q535:(ji4) < (s0_0.length:Int):=of_decide_eq_true q119_
 obtain ⟨ad535,e535,hx535_0⟩:=Kd.at_int HSz7_0 (ji4) p535 q535
 cases e535
 have hn535_0:ad535.block ≠ g:=Nat.ne_of_lt (Nat.lt_of_lt_of_le (by have:=World.block_lt_of_cell? _ _ hx535_0;first | rwa [add_block] at this | exact this) (IsS96.ge HI0.out))
 replace hx535_0:=pw_cell_below HB.out hx535_0
 replace hx535_0:=(cell_far (p:=⟨g,1,none⟩) (by first | (rw [add_block];exact hn535_0) | (show (Addr.add _ _).block ≠ _;rw [add_block];exact hn535_0) | exact hn535_0) (.int .i64 (wrap64 (s0_1 + 1)))).trans hx535_0
 (try have hy535_0:=fun (n_:Nat) => (show (((w.drewN n_).setCell ⟨g,1,none⟩ (.int .i64 (wrap64 (s0_1 + 1))))).cell? _ = some _ from hx535_0))
 clear hn535_0
 replace p535:=eq_true p535
 replace q535:=eq_true q535
 go_enter Tryz.func91,Tryz.ntmps91
 go_wp2
 repeat (go_quiet (fail);try go_wp2)
 go_ret
 exact ⟨q31_,q62_,q44_,q63_⟩
def spec_l1Rd_below.f (s0_0:List Int) (s0_1:Int) (a1:Int):Option (Int × Int):=if a1 ≤ 1 then (some (0,s0_1)) else (if a1 ≤ 256 then ((spec_l1Rd_next.f s0_0 s0_1).bind fun bt536 => (if a1 = 0 then (none) else (some (Int.tmod bt536.1 a1,bt536.2)))) else ((spec_l1Rd_next.f s0_0 s0_1).bind fun bt538 => ((spec_l1Rd_next.f s0_0 bt538.2).bind fun bt540 => (if a1 = 0 then (none) else (some (Int.tmod (wrap64 ((wrap64 (bt538.1 * 256)) + bt540.1)) a1,bt540.2))))))
theorem spec_l1Rd_below.calls (g:Nat) (s0_0:List Int) (s0_1:Int) (a1:Int) (r1:Int) (r2:Int) (w0 w:World) (hI:IsS96 w0 w g s0_0 s0_1) (hB:Below w0.heap.size w0 w) (h:spec_l1Rd_below.f s0_0 s0_1 a1 = some (r1,r2)) :
  Calls Tryz.prog 44 #[.pointer (some ⟨g,0,none⟩),.int .i64 a1] w fun e w' => e = .returned (.int .i64 r1) ∧ IsS96 w0 w' g s0_0 r2 ∧ Below w0.heap.size w0 w' ∧ KeepBut w w' g none:=by
 have HI0:=Aside0.mk hI
 have HK:=Aside0.mk (KeepBut.refl w g none)
 have HL:=Aside0.mk hB.size
 clear hI
 have HW0:=Aside0.mk hB.size
 have HB:=Aside0.mk hB
 clear hB
 have H:=h;unfold spec_l1Rd_below.f at H
 clear h
 by_cases c3:a1 ≤ 1
 ·rw [if_pos c3] at H
  have c3b0:=decide_eq_true c3
  clear c3
  simp only [Option.some.injEq,Prod.mk.injEq] at H
  obtain ⟨rfl,rfl⟩:=H
  go_enter Tryz.func44,Tryz.ntmps44
  go_wp2
  go_ret
  exact ⟨q75_,q62_,q44_,q63_⟩
 rw [if_neg c3] at H
 have c3b0:=decide_eq_false c3
 clear c3
 by_cases c4:a1 ≤ 256
 ·rw [if_pos c4] at H
  have c4b0:=decide_eq_true c4
  clear c4
  replace H:=Option.bind_eq_some_iff.mp H
  obtain ⟨⟨t536,t537⟩,A50,H⟩:=H
  try dsimp -simprocs -eta only at H
  have A5:=Aside0.mk A50
  clear A50
  by_cases c6:a1 = 0
  ·rw [if_pos c6] at H
   exact absurd H (by simp)
  rw [if_neg c6] at H
  have c6b0:(a1 == 0) = false:=beq_eq_false_iff_ne.mpr c6
  have c6b1:(a1 != 0) = true:=bne_iff_ne.mpr c6
  simp only [Option.some.injEq,Prod.mk.injEq] at H
  obtain ⟨rfl,rfl⟩:=H
  go_enter Tryz.func44,Tryz.ntmps44
  go_wp2_with (first | ((with_reducible refine gate_callee (f:=91) rfl ?_);refine goesL_ (some 11) rfl rfl Tryz.func91 (by kernel_rfl) rfl #[.pointer (some ⟨g,0,none⟩)] rfl q68_ ?_;(with_reducible refine (spec_l1Rd_next.calls g s0_0 s0_1 t536 t537 w0 _ ?side1 ?side2 A5.out).mono ?_);(case side1 => exact q152_);(case side2 => exact q148_);rintro e w7 ⟨rfl,hi,hb,hk⟩;refine ⟨_,rfl,?_⟩;have n0_:=Aside0.mk (KeepBut.trans q63_ hk (.inl rfl));have n1_:=Aside0.mk (hb);have n2_:=Aside0.mk (hi);clear HK;clear HB;clear HI0;have HK:=n0_;have HB:=n1_;have HI0:=n2_;clear n0_ n1_ n2_;(try clear hb);(try clear hk);(try clear hi)))
  go_ret
  exact ⟨q75_,q62_,q44_,q63_⟩
 rw [if_neg c4] at H
 have c4b0:=decide_eq_false c4
 clear c4
 replace H:=Option.bind_eq_some_iff.mp H
 obtain ⟨⟨t538,t539⟩,A80,H⟩:=H
 try dsimp -simprocs -eta only at H
 have A8:=Aside0.mk A80
 clear A80
 replace H:=Option.bind_eq_some_iff.mp H
 obtain ⟨⟨t540,t541⟩,A90,H⟩:=H
 try dsimp -simprocs -eta only at H
 have A9:=Aside0.mk A90
 clear A90
 by_cases c10:a1 = 0
 ·rw [if_pos c10] at H
  exact absurd H (by simp)
 rw [if_neg c10] at H
 have c10b0:(a1 == 0) = false:=beq_eq_false_iff_ne.mpr c10
 have c10b1:(a1 != 0) = true:=bne_iff_ne.mpr c10
 simp only [Option.some.injEq,Prod.mk.injEq] at H
 obtain ⟨rfl,rfl⟩:=H
 go_enter Tryz.func44,Tryz.ntmps44
 go_wp2_with (first | ((with_reducible refine gate_callee (f:=91) rfl ?_);refine goesL_ (some 15) rfl rfl Tryz.func91 (by kernel_rfl) rfl #[.pointer (some ⟨g,0,none⟩)] rfl q68_ ?_;(with_reducible refine (spec_l1Rd_next.calls g s0_0 s0_1 t538 t539 w0 _ ?side1 ?side2 A8.out).mono ?_);(case side1 => exact q152_);(case side2 => exact q148_);rintro e w11 ⟨rfl,hi,hb,hk⟩;refine ⟨_,rfl,?_⟩;have n0_:=Aside0.mk (KeepBut.trans q63_ hk (.inl rfl));have n1_:=Aside0.mk (hb);have n2_:=Aside0.mk (hi);clear HK;clear HB;clear HI0;have HK:=n0_;have HB:=n1_;have HI0:=n2_;clear n0_ n1_ n2_;(try clear hb);(try clear hk);(try clear hi)) | ((with_reducible refine gate_callee (f:=91) rfl ?_);refine goesL_ (some 19) rfl rfl Tryz.func91 (by kernel_rfl) rfl #[.pointer (some ⟨g,0,none⟩)] rfl q68_ ?_;(with_reducible refine (spec_l1Rd_next.calls g s0_0 t539 t540 t541 w0 _ ?side1 ?side2 A9.out).mono ?_);(case side1 => exact q152_);(case side2 => exact q148_);rintro e w12 ⟨rfl,hi,hb,hk⟩;refine ⟨_,rfl,?_⟩;have n0_:=Aside0.mk (KeepBut.trans q63_ hk (.inl rfl));have n1_:=Aside0.mk (hb);have n2_:=Aside0.mk (hi);clear HK;clear HB;clear HI0;have HK:=n0_;have HB:=n1_;have HI0:=n2_;clear n0_ n1_ n2_;(try clear hb);(try clear hk);(try clear hi)))
 go_ret
 exact ⟨q75_,q62_,q44_,q63_⟩
def spec_LengthOf.f (k:Nat) (a0:Int) (a1:Bool):Option (Int):=(spec_l1In.f a0 0 255).bind fun t542 => (if t542 = true then ((spec_l3Length.f k a0 a1).bind fun t543 => (some t543)) else (some 0))
theorem spec_LengthOf.calls (k:Nat) (a0:Int) (a1:Bool) (r:Int) (w:World) (h:spec_LengthOf.f k a0 a1 = some r) :
  Calls Tryz.prog 15 #[.int .i64 a0,.bool a1] w fun e w' => e = .returned (.int .i64 r) ∧ Below w.heap.size w w':=by
 have HB:=Aside0.mk (Below.refl w.heap.size w)
 have H:=h;unfold spec_LengthOf.f at H
 clear h
 replace H:=Option.bind_eq_some_iff.mp H
 obtain ⟨t542,A30,H⟩:=H
 have A3:=Aside0.mk A30
 clear A30
 by_cases c4:t542 = true
 ·subst c4
  rewrite [if_pos rfl] at H
  replace H:=Option.bind_eq_some_iff.mp H
  obtain ⟨t543,A50,H⟩:=H
  have A5:=Aside0.mk A50
  clear A50
  obtain rfl:=Option.some.inj H
  go_enter Tryz.func15,Tryz.ntmps15
  go_wp2_with (first | ((with_reducible refine gate_callee (f:=51) rfl ?_);refine goesL_ (some 6) rfl rfl Tryz.func51 (by kernel_rfl) rfl #[.int .i64 a0,.int .i64 0,.int .i64 255] rfl q68_ ?_;(with_reducible refine (spec_l1In.calls a0 0 255 true _ A3.out).mono ?_);rintro e w' ⟨rfl,⟨nd,rfl⟩⟩;refine ⟨_,rfl,?_⟩) | ((with_reducible refine gate_callee (f:=52) rfl ?_);refine goesL_ (some 10) rfl rfl Tryz.func52 (by kernel_rfl) rfl #[.int .i64 a0,.bool a1] rfl q68_ ?_;(with_reducible refine (spec_l3Length.calls k a0 a1 t543 _ A5.out).mono ?_);rintro e w6 ⟨rfl,hb⟩;refine ⟨_,rfl,?_⟩;replace HB:=Aside0.mk (below_step q70_ hb);(try clear hb)))
  go_ret
  exact ⟨q75_,q70_⟩
 replace c4:=Bool.eq_false_iff.mpr c4
 subst c4
 rewrite [if_neg (show ¬ (false = true) by decide)] at H
 obtain rfl:=Option.some.inj H
 go_enter Tryz.func15,Tryz.ntmps15
 go_wp2_with (first | ((with_reducible refine gate_callee (f:=51) rfl ?_);refine goesL_ (some 6) rfl rfl Tryz.func51 (by kernel_rfl) rfl #[.int .i64 a0,.int .i64 0,.int .i64 255] rfl q68_ ?_;(with_reducible refine (spec_l1In.calls a0 0 255 false _ A3.out).mono ?_);rintro e w' ⟨rfl,⟨nd,rfl⟩⟩;refine ⟨_,rfl,?_⟩))
 go_ret
 exact ⟨q75_,q70_⟩
def spec_InsOk.j0:Nat → Bool → Int → Bool → Int → Option (Bool)
 | 0,_,_,_,_ => none
 | k + 1,x26,x545000,x545001,x545002 => if x26 = true then ((spec_l1In.f x545002 0 255).bind fun t550 => (some t550)) else (some (x545002 == 0))
def spec_InsOk.f (k:Nat) (a0_0:Int) (a0_1:Bool) (a0_2:Int):Option (Bool):=(spec_LengthOf.f k a0_0 a0_1).bind fun t545 => (if t545 = 0 then (some false) else ((spec_l3Template.f k a0_0 a0_1).bind fun t546 => ((spec_l3Hole.f k t546).bind fun bt547 => (if bt547.2.toList = ([110,49,54]:List UInt8) then ((spec_l1In.f a0_2 0 65535).bind fun t549 => (some t549)) else (if bt547.2.toList = ([110,56]:List UInt8) then (spec_InsOk.j0 k (bt547.2.toList == ([110,56]:List UInt8)) a0_0 a0_1 a0_2) else (spec_InsOk.j0 k (bt547.2.toList == ([101,56]:List UInt8)) a0_0 a0_1 a0_2))))))
theorem spec_InsOk.calls (k:Nat) (a0_0:Int) (a0_1:Bool) (a0_2:Int) (r:Bool) (w:World) (h:spec_InsOk.f k a0_0 a0_1 a0_2 = some r) :
  Calls Tryz.prog 21 #[.agg #[.int .i64 a0_0,.bool a0_1,.int .i64 a0_2]] w fun e w' => e = .returned (.bool r) ∧ Below w.heap.size w w':=by
 have hu30:=Tryz.underlying30
 have HB:=Aside0.mk (Below.refl w.heap.size w)
 have H:=h;unfold spec_InsOk.f at H
 clear h
 replace H:=Option.bind_eq_some_iff.mp H
 obtain ⟨t545,A20,H⟩:=H
 have A2:=Aside0.mk A20
 clear A20
 by_cases c3:t545 = 0
 ·rw [if_pos c3] at H
  have c3b0:(t545 == 0) = true:=beq_iff_eq.mpr c3
  have c3b1:(t545 != 0) = false:=bne_eq_false_iff_eq.mpr c3
  clear c3
  obtain rfl:=Option.some.inj H
  go_enter Tryz.func21,Tryz.ntmps21
  go_wp2_with (first | ((with_reducible refine gate_dst (N:=1) rfl ?_);refine box_event ?hg (N:=1) ?hd (cs:=#[.int .i64 a0_0,.bool a0_1,.int .i64 a0_2]) (t:=30) ?hr ?_;(case hd => rfl);(case hg => rfl);(case hr => exact q153_);intro gb544 hg w4 hbox hb;have n0_:=Aside0.mk (below_step q70_ hb);have n1_:=Aside0.mk (hbox);have n2_:=Aside0.mk ((q46_:w.heap.size ≤ gb544));have n3_:=Aside0.mk ((q46_:w.heap.size ≤ gb544));clear HB;have HB:=n0_;have BK544:=n1_;have GW544:=n2_;have GE544:=n3_;clear n0_ n1_ n2_ n3_;clear hb hbox hg;have hcz5_0:w4.cell? ⟨gb544,0,none⟩ = some (.int .i64 a0_0):=(blk_cell BK544.out 0).trans rfl;have hcz5_1:w4.cell? ⟨gb544,1,none⟩ = some (.bool a0_1):=(blk_cell BK544.out 1).trans rfl;have hcz5_2:w4.cell? ⟨gb544,2,none⟩ = some (.int .i64 a0_2):=(blk_cell BK544.out 2).trans rfl;have hfz5_0:=blk_frozen BK544.out 0;have hfz5_1:=blk_frozen BK544.out 1;have hfz5_2:=blk_frozen BK544.out 2) | ((with_reducible refine gate_callee (f:=15) rfl ?_);refine goesL_ (some 9) rfl rfl Tryz.func15 (by kernel_rfl) rfl #[.int .i64 a0_0,.bool a0_1] rfl q68_ ?_;(with_reducible refine (spec_LengthOf.calls k a0_0 a0_1 t545 _ A2.out).mono ?_);rintro e w6 ⟨rfl,hb⟩;refine ⟨_,rfl,?_⟩;have n0_:=Aside0.mk (blk_below (g:=gb544) (o:=.cells #[.int .i64 a0_0,.bool a0_1,.int .i64 a0_2] 30 (0,0)) q85_ hb);have n1_:=Aside0.mk (below_step q56_ hb);clear BK544;clear HB;have BK544:=n0_;have HB:=n1_;clear n0_ n1_;(try clear hb)))
  go_ret
  exact ⟨q75_,q56_⟩
 rw [if_neg c3] at H
 have c3b0:(t545 == 0) = false:=beq_eq_false_iff_ne.mpr c3
 have c3b1:(t545 != 0) = true:=bne_iff_ne.mpr c3
 replace H:=Option.bind_eq_some_iff.mp H
 obtain ⟨t546,A70,H⟩:=H
 have A7:=Aside0.mk A70
 clear A70
 replace H:=Option.bind_eq_some_iff.mp H
 obtain ⟨⟨t547,t548⟩,A80,H⟩:=H
 try dsimp -simprocs -eta only at H
 have A8:=Aside0.mk A80
 clear A80
 by_cases c9:t548.toList = ([110,49,54]:List UInt8)
 ·rw [if_pos c9] at H
  have c9b0:(t548.toList == ([110,49,54]:List UInt8)) = true:=beq_iff_eq.mpr c9
  have c9b1:(t548.toList != ([110,49,54]:List UInt8)) = false:=bne_eq_false_iff_eq.mpr c9
  clear c9
  replace H:=Option.bind_eq_some_iff.mp H
  obtain ⟨t549,A100,H⟩:=H
  have A10:=Aside0.mk A100
  clear A100
  obtain rfl:=Option.some.inj H
  go_enter Tryz.func21,Tryz.ntmps21
  go_wp2_with (first | ((with_reducible refine gate_dst (N:=1) rfl ?_);refine box_event ?hg (N:=1) ?hd (cs:=#[.int .i64 a0_0,.bool a0_1,.int .i64 a0_2]) (t:=30) ?hr ?_;(case hd => rfl);(case hg => rfl);(case hr => exact q153_);intro gb544 hg w11 hbox hb;have n0_:=Aside0.mk (below_step q70_ hb);have n1_:=Aside0.mk (hbox);have n2_:=Aside0.mk ((q46_:w.heap.size ≤ gb544));have n3_:=Aside0.mk ((q46_:w.heap.size ≤ gb544));clear HB;have HB:=n0_;have BK544:=n1_;have GW544:=n2_;have GE544:=n3_;clear n0_ n1_ n2_ n3_;clear hb hbox hg;have hcz12_0:w11.cell? ⟨gb544,0,none⟩ = some (.int .i64 a0_0):=(blk_cell BK544.out 0).trans rfl;have hcz12_1:w11.cell? ⟨gb544,1,none⟩ = some (.bool a0_1):=(blk_cell BK544.out 1).trans rfl;have hcz12_2:w11.cell? ⟨gb544,2,none⟩ = some (.int .i64 a0_2):=(blk_cell BK544.out 2).trans rfl;have hfz12_0:=blk_frozen BK544.out 0;have hfz12_1:=blk_frozen BK544.out 1;have hfz12_2:=blk_frozen BK544.out 2) | ((with_reducible refine gate_callee (f:=15) rfl ?_);refine goesL_ (some 9) rfl rfl Tryz.func15 (by kernel_rfl) rfl #[.int .i64 a0_0,.bool a0_1] rfl q68_ ?_;(with_reducible refine (spec_LengthOf.calls k a0_0 a0_1 t545 _ A2.out).mono ?_);rintro e w13 ⟨rfl,hb⟩;refine ⟨_,rfl,?_⟩;have n0_:=Aside0.mk (blk_below (g:=gb544) (o:=.cells #[.int .i64 a0_0,.bool a0_1,.int .i64 a0_2] 30 (0,0)) q85_ hb);have n1_:=Aside0.mk (below_step q56_ hb);clear BK544;clear HB;have BK544:=n0_;have HB:=n1_;clear n0_ n1_;(try clear hb);have hcz14_0:w13.cell? ⟨gb544,0,none⟩ = some (.int .i64 a0_0):=(blk_cell BK544.out 0).trans rfl;have hcz14_1:w13.cell? ⟨gb544,1,none⟩ = some (.bool a0_1):=(blk_cell BK544.out 1).trans rfl;have hcz14_2:w13.cell? ⟨gb544,2,none⟩ = some (.int .i64 a0_2):=(blk_cell BK544.out 2).trans rfl;have hfz14_0:=blk_frozen BK544.out 0;have hfz14_1:=blk_frozen BK544.out 1;have hfz14_2:=blk_frozen BK544.out 2) | ((with_reducible refine gate_callee (f:=60) rfl ?_);refine goesL_ (some 16) rfl rfl Tryz.func60 (by kernel_rfl) rfl #[.int .i64 a0_0,.bool a0_1] rfl q68_ ?_;(with_reducible refine (spec_l3Template.calls k a0_0 a0_1 t546 _ A7.out).mono ?_);rintro e w15 ⟨rfl,hb⟩;refine ⟨_,rfl,?_⟩;have n0_:=Aside0.mk (blk_below (g:=gb544) (o:=.cells #[.int .i64 a0_0,.bool a0_1,.int .i64 a0_2] 30 (0,0)) q85_ hb);have n1_:=Aside0.mk (below_step q56_ hb);clear BK544;clear HB;have BK544:=n0_;have HB:=n1_;clear n0_ n1_;(try clear hb)) | ((with_reducible refine gate_callee (f:=59) rfl ?_);refine goesL_ (some 17) rfl rfl Tryz.func59 (by kernel_rfl) rfl #[.string t546] rfl q68_ ?_;(with_reducible refine (spec_l3Hole.calls k t546 t547 t548 _ A8.out).mono ?_);rintro e w16 ⟨rfl,hb⟩;refine ⟨_,rfl,?_⟩;have n0_:=Aside0.mk (blk_below (g:=gb544) (o:=.cells #[.int .i64 a0_0,.bool a0_1,.int .i64 a0_2] 30 (0,0)) q85_ hb);have n1_:=Aside0.mk (below_step q56_ hb);clear BK544;clear HB;have BK544:=n0_;have HB:=n1_;clear n0_ n1_;(try clear hb);have hcz17_0:w16.cell? ⟨gb544,0,none⟩ = some (.int .i64 a0_0):=(blk_cell BK544.out 0).trans rfl;have hcz17_1:w16.cell? ⟨gb544,1,none⟩ = some (.bool a0_1):=(blk_cell BK544.out 1).trans rfl;have hcz17_2:w16.cell? ⟨gb544,2,none⟩ = some (.int .i64 a0_2):=(blk_cell BK544.out 2).trans rfl;have hfz17_0:=blk_frozen BK544.out 0;have hfz17_1:=blk_frozen BK544.out 1;have hfz17_2:=blk_frozen BK544.out 2) | ((with_reducible refine gate_callee (f:=51) rfl ?_);refine goesL_ (some 25) rfl rfl Tryz.func51 (by kernel_rfl) rfl #[.int .i64 a0_2,.int .i64 0,.int .i64 65535] rfl q68_ ?_;(with_reducible refine (spec_l1In.calls a0_2 0 65535 t549 _ A10.out).mono ?_);rintro e w' ⟨rfl,⟨nd,rfl⟩⟩;refine ⟨_,rfl,?_⟩))
  go_ret
  exact ⟨q75_,q56_⟩
 rw [if_neg c9] at H
 have c9b0:(t548.toList == ([110,49,54]:List UInt8)) = false:=beq_eq_false_iff_ne.mpr c9
 have c9b1:(t548.toList != ([110,49,54]:List UInt8)) = true:=bne_iff_ne.mpr c9
 have HC18:=Aside0.mk H
 clear H
 go_enter Tryz.func21,Tryz.ntmps21
 go_upto_if 26 with (first | ((with_reducible refine gate_dst (N:=1) rfl ?_);refine box_event ?hg (N:=1) ?hd (cs:=#[.int .i64 a0_0,.bool a0_1,.int .i64 a0_2]) (t:=30) ?hr ?_;(case hd => rfl);(case hg => rfl);(case hr => exact q153_);intro gb544 hg w19 hbox hb;have n0_:=Aside0.mk (below_step q70_ hb);have n1_:=Aside0.mk (hbox);have n2_:=Aside0.mk ((q46_:w.heap.size ≤ gb544));have n3_:=Aside0.mk ((q46_:w.heap.size ≤ gb544));clear HB;have HB:=n0_;have BK544:=n1_;have GW544:=n2_;have GE544:=n3_;clear n0_ n1_ n2_ n3_;clear hb hbox hg;have hcz20_0:w19.cell? ⟨gb544,0,none⟩ = some (.int .i64 a0_0):=(blk_cell BK544.out 0).trans rfl;have hcz20_1:w19.cell? ⟨gb544,1,none⟩ = some (.bool a0_1):=(blk_cell BK544.out 1).trans rfl;have hcz20_2:w19.cell? ⟨gb544,2,none⟩ = some (.int .i64 a0_2):=(blk_cell BK544.out 2).trans rfl;have hfz20_0:=blk_frozen BK544.out 0;have hfz20_1:=blk_frozen BK544.out 1;have hfz20_2:=blk_frozen BK544.out 2) | ((with_reducible refine gate_callee (f:=15) rfl ?_);refine goesL_ (some 9) rfl rfl Tryz.func15 (by kernel_rfl) rfl #[.int .i64 a0_0,.bool a0_1] rfl q68_ ?_;(with_reducible refine (spec_LengthOf.calls k a0_0 a0_1 t545 _ A2.out).mono ?_);rintro e w21 ⟨rfl,hb⟩;refine ⟨_,rfl,?_⟩;have n0_:=Aside0.mk (blk_below (g:=gb544) (o:=.cells #[.int .i64 a0_0,.bool a0_1,.int .i64 a0_2] 30 (0,0)) q85_ hb);have n1_:=Aside0.mk (below_step q56_ hb);clear BK544;clear HB;have BK544:=n0_;have HB:=n1_;clear n0_ n1_;(try clear hb);have hcz22_0:w21.cell? ⟨gb544,0,none⟩ = some (.int .i64 a0_0):=(blk_cell BK544.out 0).trans rfl;have hcz22_1:w21.cell? ⟨gb544,1,none⟩ = some (.bool a0_1):=(blk_cell BK544.out 1).trans rfl;have hcz22_2:w21.cell? ⟨gb544,2,none⟩ = some (.int .i64 a0_2):=(blk_cell BK544.out 2).trans rfl;have hfz22_0:=blk_frozen BK544.out 0;have hfz22_1:=blk_frozen BK544.out 1;have hfz22_2:=blk_frozen BK544.out 2) | ((with_reducible refine gate_callee (f:=60) rfl ?_);refine goesL_ (some 16) rfl rfl Tryz.func60 (by kernel_rfl) rfl #[.int .i64 a0_0,.bool a0_1] rfl q68_ ?_;(with_reducible refine (spec_l3Template.calls k a0_0 a0_1 t546 _ A7.out).mono ?_);rintro e w23 ⟨rfl,hb⟩;refine ⟨_,rfl,?_⟩;have n0_:=Aside0.mk (blk_below (g:=gb544) (o:=.cells #[.int .i64 a0_0,.bool a0_1,.int .i64 a0_2] 30 (0,0)) q85_ hb);have n1_:=Aside0.mk (below_step q56_ hb);clear BK544;clear HB;have BK544:=n0_;have HB:=n1_;clear n0_ n1_;(try clear hb)) | ((with_reducible refine gate_callee (f:=59) rfl ?_);refine goesL_ (some 17) rfl rfl Tryz.func59 (by kernel_rfl) rfl #[.string t546] rfl q68_ ?_;(with_reducible refine (spec_l3Hole.calls k t546 t547 t548 _ A8.out).mono ?_);rintro e w24 ⟨rfl,hb⟩;refine ⟨_,rfl,?_⟩;have n0_:=Aside0.mk (blk_below (g:=gb544) (o:=.cells #[.int .i64 a0_0,.bool a0_1,.int .i64 a0_2] 30 (0,0)) q85_ hb);have n1_:=Aside0.mk (below_step q56_ hb);clear BK544;clear HB;have BK544:=n0_;have HB:=n1_;clear n0_ n1_;(try clear hb)))
 (try simp only [Act.put,List.setIfInBounds_toArray,List.set_cons_zero,List.set_cons_succ])
 go_cut [26] (fun v26 wc => ∃ (kq:Nat) (x26_17:Bool),v26 = .bool x26_17 ∧ Aside0 (spec_InsOk.j0 kq x26_17 a0_0 a0_1 a0_2 = some r) ∧ Aside0 (kq ≤ k) ∧ Aside0 (wc.heap[gb544]? = some (.cells #[.int .i64 a0_0,.bool a0_1,.int .i64 a0_2] 30 (0,0))) ∧ Aside0 (Below w.heap.size w wc))
 case first =>
  have H:=HC18.out
  clear HC18
  by_cases c25:t548.toList = ([110,56]:List UInt8)
  ·rw [if_pos c25] at H
   have c25b0:(t548.toList == ([110,56]:List UInt8)) = true:=beq_iff_eq.mpr c25
   have c25b1:(t548.toList != ([110,56]:List UInt8)) = false:=bne_eq_false_iff_eq.mpr c25
   clear c25
   (first | rw [c25b0] | (simp only [i64_w,i32_w];rw [c25b0]) | skip)
   have H':=Aside0.mk H
   clear H
   go_wp2
   go_meet
   case rel => exact ⟨_,((t548.toList == ([110,56]:List UInt8))),q94_,H',⟨q132_⟩,⟨q85_⟩,⟨q56_⟩⟩
  rw [if_neg c25] at H
  have c25b0:(t548.toList == ([110,56]:List UInt8)) = false:=beq_eq_false_iff_ne.mpr c25
  have c25b1:(t548.toList != ([110,56]:List UInt8)) = true:=bne_iff_ne.mpr c25
  (first | rw [c25b0] | (simp only [i64_w,i32_w];rw [c25b0]) | skip)
  have H':=Aside0.mk H
  clear H
  go_wp2
  go_meet
  case rel => exact ⟨_,((t548.toList == ([101,56]:List UInt8))),q94_,H',⟨q132_⟩,⟨q85_⟩,⟨q56_⟩⟩
 clear HC18
 try clear c1
 try clear c2
 try clear p2
 try clear c3
 try clear c3b0
 try clear c3b1
 try clear c5
 try clear c6
 try clear p6
 try clear c9
 try clear c9b0
 try clear c9b1
 try clear c15
 try clear c21
 try clear c25
 try clear c25b0
 try clear c25b1
 try clear hcz12_0 hcz12_1 hcz12_2
 try clear hcz14_0 hcz14_1 hcz14_2
 try clear hcz17_0 hcz17_1 hcz17_2
 try clear hcz20_0 hcz20_1 hcz20_2
 try clear hcz22_0 hcz22_1 hcz22_2
 try clear hcz5_0 hcz5_1 hcz5_2
 try clear hfz12_0 hfz12_1 hfz12_2
 try clear hfz14_0 hfz14_1 hfz14_2
 try clear hfz17_0 hfz17_1 hfz17_2
 try clear hfz20_0 hfz20_1 hfz20_2
 try clear hfz22_0 hfz22_1 hfz22_2
 try clear hfz5_0 hfz5_1 hfz5_2
 obtain ⟨kq,x26_17,rfl,HA,HJ17,BK544,HB⟩:=hcut
 cases kq with
 | zero => exact absurd HA.out (by simp [spec_InsOk.j0])
 | succ kj17 =>
  have H:=HA.out
  clear HA
  simp only [spec_InsOk.j0] at H
  by_cases c26:x26_17 = true
  ·subst c26
   rewrite [if_pos rfl] at H
   replace H:=Option.bind_eq_some_iff.mp H
   obtain ⟨t550,A270,H⟩:=H
   have A27:=Aside0.mk A270
   clear A270
   obtain rfl:=Option.some.inj H
   have hcz28_0:wc.cell? ⟨gb544,0,none⟩ = some (.int .i64 a0_0):=bz_ BK544 0
   have hcz28_1:wc.cell? ⟨gb544,1,none⟩ = some (.bool a0_1):=bz_ BK544 1
   have hcz28_2:wc.cell? ⟨gb544,2,none⟩ = some (.int .i64 a0_2):=bz_ BK544 2
   have hfz28_0:=blk_frozen BK544.out 0
   have hfz28_1:=blk_frozen BK544.out 1
   have hfz28_2:=blk_frozen BK544.out 2
   go_wp2_with (first | ((with_reducible refine gate_callee (f:=51) rfl ?_);refine goesL_ (some 31) rfl rfl Tryz.func51 (by kernel_rfl) rfl #[.int .i64 a0_2,.int .i64 0,.int .i64 255] rfl q68_ ?_;(with_reducible refine (spec_l1In.calls a0_2 0 255 t550 _ A27.out).mono ?_);rintro e w' ⟨rfl,⟨nd,rfl⟩⟩;refine ⟨_,rfl,?_⟩))
   go_ret
   exact ⟨q75_,q56_⟩
  replace c26:=Bool.eq_false_iff.mpr c26
  subst c26
  rewrite [if_neg (show ¬ (false = true) by decide)] at H
  obtain rfl:=Option.some.inj H
  have hcz29_0:wc.cell? ⟨gb544,0,none⟩ = some (.int .i64 a0_0):=bz_ BK544 0
  have hcz29_1:wc.cell? ⟨gb544,1,none⟩ = some (.bool a0_1):=bz_ BK544 1
  have hcz29_2:wc.cell? ⟨gb544,2,none⟩ = some (.int .i64 a0_2):=bz_ BK544 2
  have hfz29_0:=blk_frozen BK544.out 0
  have hfz29_1:=blk_frozen BK544.out 1
  have hfz29_2:=blk_frozen BK544.out 2
  go_wp2
  go_ret
  exact ⟨q75_,q56_⟩
def spec_InsBytes.f (k:Nat) (a0_0:Int) (a0_1:Bool) (a0_2:Int):Option (ByteArray):=(spec_InsOk.f k a0_0 a0_1 a0_2).bind fun t552 => (if t552 = true then (if a0_1 = true then (some (strOfNums (([203,(a0_0) % 256]:List Int)))) else ((spec_l3Length.f k a0_0 false).bind fun t556 => (if t556 = 2 then (some (strOfNums (([(a0_0) % 256,(a0_2) % 256]:List Int)))) else (if t556 = 3 then (some (strOfNums (([(a0_0) % 256,(a0_2) % 256,(a0_2 / 256) % 256]:List Int)))) else (some (strOfNums (([(a0_0) % 256]:List Int)))))))) else (some (⟨#[]⟩:ByteArray)))
theorem spec_InsBytes.calls (k:Nat) (a0_0:Int) (a0_1:Bool) (a0_2:Int) (r:ByteArray) (w:World) (h:spec_InsBytes.f k a0_0 a0_1 a0_2 = some r) :
  Calls Tryz.prog 19 #[.agg #[.int .i64 a0_0,.bool a0_1,.int .i64 a0_2]] w fun e w' => e = .returned (.string r) ∧ Below w.heap.size w w':=by
 have hu30:=Tryz.underlying30
 have HB:=Aside0.mk (Below.refl w.heap.size w)
 have H:=h;unfold spec_InsBytes.f at H
 clear h
 replace H:=Option.bind_eq_some_iff.mp H
 obtain ⟨t552,A20,H⟩:=H
 have A2:=Aside0.mk A20
 clear A20
 by_cases c3:t552 = true
 ·subst c3
  rewrite [if_pos rfl] at H
  by_cases c4:a0_1 = true
  ·subst c4
   rewrite [if_pos rfl] at H
   obtain ⟨y553,hy553⟩:∃ y_:List Int,y_ = (([203,(a0_0) % 256]:List Int)):=⟨_,rfl⟩
   replace H:(some (strOfNums y553)) = some r:=by first | (rw [hy553];exact H) | exact H
   have Ny553:=Aside0.mk hy553
   clear hy553
   obtain rfl:=Option.some.inj H
   go_enter Tryz.func19,Tryz.ntmps19
   go_wp2_with (first | ((with_reducible refine gate_dst (N:=1) rfl ?_);refine box_event ?hg (N:=1) ?hd (cs:=#[.int .i64 a0_0,.bool true,.int .i64 a0_2]) (t:=30) ?hr ?_;(case hd => rfl);(case hg => rfl);(case hr => exact q153_);intro gb551 hg w5 hbox hb;have n0_:=Aside0.mk (below_step q70_ hb);have n1_:=Aside0.mk (hbox);have n2_:=Aside0.mk ((q46_:w.heap.size ≤ gb551));have n3_:=Aside0.mk ((q46_:w.heap.size ≤ gb551));clear HB;have HB:=n0_;have BK551:=n1_;have GW551:=n2_;have GE551:=n3_;clear n0_ n1_ n2_ n3_;clear hb hbox hg;have hcz6_0:w5.cell? ⟨gb551,0,none⟩ = some (.int .i64 a0_0):=(blk_cell BK551.out 0).trans rfl;have hcz6_1:w5.cell? ⟨gb551,1,none⟩ = some (.bool true):=(blk_cell BK551.out 1).trans rfl;have hcz6_2:w5.cell? ⟨gb551,2,none⟩ = some (.int .i64 a0_2):=(blk_cell BK551.out 2).trans rfl;have hfz6_0:=blk_frozen BK551.out 0;have hfz6_1:=blk_frozen BK551.out 1;have hfz6_2:=blk_frozen BK551.out 2) | ((with_reducible refine gate_callee (f:=21) rfl ?_);refine goesL_ (some 4) rfl rfl Tryz.func21 (by kernel_rfl) rfl #[.agg #[.int .i64 a0_0,.bool true,.int .i64 a0_2]] rfl q68_ ?_;(with_reducible refine (spec_InsOk.calls k a0_0 true a0_2 true _ A2.out).mono ?_);rintro e w7 ⟨rfl,hb⟩;refine ⟨_,rfl,?_⟩;have n0_:=Aside0.mk (blk_below (g:=gb551) (o:=.cells #[.int .i64 a0_0,.bool true,.int .i64 a0_2] 30 (0,0)) q86_ hb);have n1_:=Aside0.mk (below_step q57_ hb);clear BK551;clear HB;have BK551:=n0_;have HB:=n1_;clear n0_ n1_;(try clear hb);have hcz8_0:w7.cell? ⟨gb551,0,none⟩ = some (.int .i64 a0_0):=(blk_cell BK551.out 0).trans rfl;have hcz8_1:w7.cell? ⟨gb551,1,none⟩ = some (.bool true):=(blk_cell BK551.out 1).trans rfl;have hcz8_2:w7.cell? ⟨gb551,2,none⟩ = some (.int .i64 a0_2):=(blk_cell BK551.out 2).trans rfl;have hfz8_0:=blk_frozen BK551.out 0;have hfz8_1:=blk_frozen BK551.out 1;have hfz8_2:=blk_frozen BK551.out 2) | ((with_reducible refine gate_dst (N:=11) rfl ?_);refine Kd.R_lit (Kd.int .u8) _ 5 ?hg (N:=11) ?hd (xs:=([203,(a0_0) % 256]:List Int)) (inner:=[.int .u8 203,.int .u8 ((a0_0) % 256)]) (ok:=fun _ => True) (okp:=fun _ => True) ?hr ?hp (fun _ hk => hk) trivial (Below.refl _ _) (Nat.le_refl _) (by simp) ?_;(case hd => rfl);(case hg => rfl);(case hr => exact q153_);(case hp => exact (Reps.one (show Kd.M (Kd.int .u8) _ _ _ 203 [.int .u8 203] from rfl) (Reps.one (show Kd.M (Kd.int .u8) _ _ _ ((a0_0) % 256) [.int .u8 ((a0_0) % 256)] from rfl) (Reps.none _ _))));intro v554 w9 ho10 hb hg_ hnew_;clear hg_ hnew_;(first | rw [← Ny553.out] at ho10 | (simp only [Int.reduceToNat] at ho10;rw [← Ny553.out] at ho10));have n0_:=Aside0.mk (Kd.R_lower ho10 (below_size q57_));have n1_:=Aside0.mk (blk_below (g:=gb551) (o:=.cells #[.int .i64 a0_0,.bool true,.int .i64 a0_2] 30 (0,0)) q86_ hb);have n2_:=Aside0.mk (below_step q57_ hb);clear BK551;clear HB;have HO555:=n0_;have BK551:=n1_;have HB:=n2_;clear n0_ n1_ n2_;clear hb ho10;have hcv11:=own_string (P:=Tryz.prog) Tryz.underlying22 Tryz.underlying5 Tryz.underlying9 (Kd.own_of_R HO555.out);have hcvq11:=fun m_:Nat => own_string (P:=Tryz.prog) Tryz.underlying22 Tryz.underlying5 Tryz.underlying9 (Kd.own_of_R (Kd.R_drewN HO555.out m_))))
   go_ret
   exact ⟨q75_,q57_⟩
  replace c4:=Bool.eq_false_iff.mpr c4
  subst c4
  rewrite [if_neg (show ¬ (false = true) by decide)] at H
  replace H:=Option.bind_eq_some_iff.mp H
  obtain ⟨t556,A120,H⟩:=H
  have A12:=Aside0.mk A120
  clear A120
  by_cases c13:t556 = 2
  ·rw [if_pos c13] at H
   have c13b0:(t556 == 2) = true:=beq_iff_eq.mpr c13
   have c13b1:(t556 != 2) = false:=bne_eq_false_iff_eq.mpr c13
   clear c13
   obtain ⟨y557,hy557⟩:∃ y_:List Int,y_ = (([(a0_0) % 256,(a0_2) % 256]:List Int)):=⟨_,rfl⟩
   replace H:(some (strOfNums y557)) = some r:=by first | (rw [hy557];exact H) | exact H
   have Ny557:=Aside0.mk hy557
   clear hy557
   obtain rfl:=Option.some.inj H
   go_enter Tryz.func19,Tryz.ntmps19
   go_wp2_with (first | ((with_reducible refine gate_dst (N:=1) rfl ?_);refine box_event ?hg (N:=1) ?hd (cs:=#[.int .i64 a0_0,.bool false,.int .i64 a0_2]) (t:=30) ?hr ?_;(case hd => rfl);(case hg => rfl);(case hr => exact q153_);intro gb551 hg w14 hbox hb;have n0_:=Aside0.mk (below_step q70_ hb);have n1_:=Aside0.mk (hbox);have n2_:=Aside0.mk ((q46_:w.heap.size ≤ gb551));have n3_:=Aside0.mk ((q46_:w.heap.size ≤ gb551));clear HB;have HB:=n0_;have BK551:=n1_;have GW551:=n2_;have GE551:=n3_;clear n0_ n1_ n2_ n3_;clear hb hbox hg;have hcz15_0:w14.cell? ⟨gb551,0,none⟩ = some (.int .i64 a0_0):=(blk_cell BK551.out 0).trans rfl;have hcz15_1:w14.cell? ⟨gb551,1,none⟩ = some (.bool false):=(blk_cell BK551.out 1).trans rfl;have hcz15_2:w14.cell? ⟨gb551,2,none⟩ = some (.int .i64 a0_2):=(blk_cell BK551.out 2).trans rfl;have hfz15_0:=blk_frozen BK551.out 0;have hfz15_1:=blk_frozen BK551.out 1;have hfz15_2:=blk_frozen BK551.out 2) | ((with_reducible refine gate_callee (f:=21) rfl ?_);refine goesL_ (some 4) rfl rfl Tryz.func21 (by kernel_rfl) rfl #[.agg #[.int .i64 a0_0,.bool false,.int .i64 a0_2]] rfl q68_ ?_;(with_reducible refine (spec_InsOk.calls k a0_0 false a0_2 true _ A2.out).mono ?_);rintro e w16 ⟨rfl,hb⟩;refine ⟨_,rfl,?_⟩;have n0_:=Aside0.mk (blk_below (g:=gb551) (o:=.cells #[.int .i64 a0_0,.bool false,.int .i64 a0_2] 30 (0,0)) q86_ hb);have n1_:=Aside0.mk (below_step q57_ hb);clear BK551;clear HB;have BK551:=n0_;have HB:=n1_;clear n0_ n1_;(try clear hb);have hcz17_0:w16.cell? ⟨gb551,0,none⟩ = some (.int .i64 a0_0):=(blk_cell BK551.out 0).trans rfl;have hcz17_1:w16.cell? ⟨gb551,1,none⟩ = some (.bool false):=(blk_cell BK551.out 1).trans rfl;have hcz17_2:w16.cell? ⟨gb551,2,none⟩ = some (.int .i64 a0_2):=(blk_cell BK551.out 2).trans rfl;have hfz17_0:=blk_frozen BK551.out 0;have hfz17_1:=blk_frozen BK551.out 1;have hfz17_2:=blk_frozen BK551.out 2) | ((with_reducible refine gate_callee (f:=52) rfl ?_);refine goesL_ (some 15) rfl rfl Tryz.func52 (by kernel_rfl) rfl #[.int .i64 a0_0,.bool false] rfl q68_ ?_;(with_reducible refine (spec_l3Length.calls k a0_0 false t556 _ A12.out).mono ?_);rintro e w18 ⟨rfl,hb⟩;refine ⟨_,rfl,?_⟩;have n0_:=Aside0.mk (blk_below (g:=gb551) (o:=.cells #[.int .i64 a0_0,.bool false,.int .i64 a0_2] 30 (0,0)) q86_ hb);have n1_:=Aside0.mk (below_step q57_ hb);clear BK551;clear HB;have BK551:=n0_;have HB:=n1_;clear n0_ n1_;(try clear hb);have hcz19_0:w18.cell? ⟨gb551,0,none⟩ = some (.int .i64 a0_0):=(blk_cell BK551.out 0).trans rfl;have hcz19_1:w18.cell? ⟨gb551,1,none⟩ = some (.bool false):=(blk_cell BK551.out 1).trans rfl;have hcz19_2:w18.cell? ⟨gb551,2,none⟩ = some (.int .i64 a0_2):=(blk_cell BK551.out 2).trans rfl;have hfz19_0:=blk_frozen BK551.out 0;have hfz19_1:=blk_frozen BK551.out 1;have hfz19_2:=blk_frozen BK551.out 2) | ((with_reducible refine gate_dst (N:=24) rfl ?_);refine Kd.R_lit (Kd.int .u8) _ 5 ?hg (N:=24) ?hd (xs:=([(a0_0) % 256,(a0_2) % 256]:List Int)) (inner:=[.int .u8 ((a0_0) % 256),.int .u8 ((a0_2) % 256)]) (ok:=fun _ => True) (okp:=fun _ => True) ?hr ?hp (fun _ hk => hk) trivial (Below.refl _ _) (Nat.le_refl _) (by simp) ?_;(case hd => rfl);(case hg => rfl);(case hr => exact q153_);(case hp => exact (Reps.one (show Kd.M (Kd.int .u8) _ _ _ ((a0_0) % 256) [.int .u8 ((a0_0) % 256)] from rfl) (Reps.one (show Kd.M (Kd.int .u8) _ _ _ ((a0_2) % 256) [.int .u8 ((a0_2) % 256)] from rfl) (Reps.none _ _))));intro v558 w20 ho21 hb hg_ hnew_;clear hg_ hnew_;(first | rw [← Ny557.out] at ho21 | (simp only [Int.reduceToNat] at ho21;rw [← Ny557.out] at ho21));have n0_:=Aside0.mk (Kd.R_lower ho21 (below_size q57_));have n1_:=Aside0.mk (blk_below (g:=gb551) (o:=.cells #[.int .i64 a0_0,.bool false,.int .i64 a0_2] 30 (0,0)) q86_ hb);have n2_:=Aside0.mk (below_step q57_ hb);clear BK551;clear HB;have HO559:=n0_;have BK551:=n1_;have HB:=n2_;clear n0_ n1_ n2_;clear hb ho21;have hcv22:=own_string (P:=Tryz.prog) Tryz.underlying22 Tryz.underlying5 Tryz.underlying9 (Kd.own_of_R HO559.out);have hcvq22:=fun m_:Nat => own_string (P:=Tryz.prog) Tryz.underlying22 Tryz.underlying5 Tryz.underlying9 (Kd.own_of_R (Kd.R_drewN HO559.out m_))))
   go_ret
   exact ⟨q75_,q57_⟩
  rw [if_neg c13] at H
  have c13b0:(t556 == 2) = false:=beq_eq_false_iff_ne.mpr c13
  have c13b1:(t556 != 2) = true:=bne_iff_ne.mpr c13
  by_cases c23:t556 = 3
  ·rw [if_pos c23] at H
   have c23b0:(t556 == 3) = true:=beq_iff_eq.mpr c23
   have c23b1:(t556 != 3) = false:=bne_eq_false_iff_eq.mpr c23
   clear c23
   obtain ⟨y560,hy560⟩:∃ y_:List Int,y_ = (([(a0_0) % 256,(a0_2) % 256,(a0_2 / 256) % 256]:List Int)):=⟨_,rfl⟩
   replace H:(some (strOfNums y560)) = some r:=by first | (rw [hy560];exact H) | exact H
   have Ny560:=Aside0.mk hy560
   clear hy560
   obtain rfl:=Option.some.inj H
   go_enter Tryz.func19,Tryz.ntmps19
   go_wp2_with (first | ((with_reducible refine gate_dst (N:=1) rfl ?_);refine box_event ?hg (N:=1) ?hd (cs:=#[.int .i64 a0_0,.bool false,.int .i64 a0_2]) (t:=30) ?hr ?_;(case hd => rfl);(case hg => rfl);(case hr => exact q153_);intro gb551 hg w24 hbox hb;have n0_:=Aside0.mk (below_step q70_ hb);have n1_:=Aside0.mk (hbox);have n2_:=Aside0.mk ((q46_:w.heap.size ≤ gb551));have n3_:=Aside0.mk ((q46_:w.heap.size ≤ gb551));clear HB;have HB:=n0_;have BK551:=n1_;have GW551:=n2_;have GE551:=n3_;clear n0_ n1_ n2_ n3_;clear hb hbox hg;have hcz25_0:w24.cell? ⟨gb551,0,none⟩ = some (.int .i64 a0_0):=(blk_cell BK551.out 0).trans rfl;have hcz25_1:w24.cell? ⟨gb551,1,none⟩ = some (.bool false):=(blk_cell BK551.out 1).trans rfl;have hcz25_2:w24.cell? ⟨gb551,2,none⟩ = some (.int .i64 a0_2):=(blk_cell BK551.out 2).trans rfl;have hfz25_0:=blk_frozen BK551.out 0;have hfz25_1:=blk_frozen BK551.out 1;have hfz25_2:=blk_frozen BK551.out 2) | ((with_reducible refine gate_callee (f:=21) rfl ?_);refine goesL_ (some 4) rfl rfl Tryz.func21 (by kernel_rfl) rfl #[.agg #[.int .i64 a0_0,.bool false,.int .i64 a0_2]] rfl q68_ ?_;(with_reducible refine (spec_InsOk.calls k a0_0 false a0_2 true _ A2.out).mono ?_);rintro e w26 ⟨rfl,hb⟩;refine ⟨_,rfl,?_⟩;have n0_:=Aside0.mk (blk_below (g:=gb551) (o:=.cells #[.int .i64 a0_0,.bool false,.int .i64 a0_2] 30 (0,0)) q86_ hb);have n1_:=Aside0.mk (below_step q57_ hb);clear BK551;clear HB;have BK551:=n0_;have HB:=n1_;clear n0_ n1_;(try clear hb);have hcz27_0:w26.cell? ⟨gb551,0,none⟩ = some (.int .i64 a0_0):=(blk_cell BK551.out 0).trans rfl;have hcz27_1:w26.cell? ⟨gb551,1,none⟩ = some (.bool false):=(blk_cell BK551.out 1).trans rfl;have hcz27_2:w26.cell? ⟨gb551,2,none⟩ = some (.int .i64 a0_2):=(blk_cell BK551.out 2).trans rfl;have hfz27_0:=blk_frozen BK551.out 0;have hfz27_1:=blk_frozen BK551.out 1;have hfz27_2:=blk_frozen BK551.out 2) | ((with_reducible refine gate_callee (f:=52) rfl ?_);refine goesL_ (some 15) rfl rfl Tryz.func52 (by kernel_rfl) rfl #[.int .i64 a0_0,.bool false] rfl q68_ ?_;(with_reducible refine (spec_l3Length.calls k a0_0 false t556 _ A12.out).mono ?_);rintro e w28 ⟨rfl,hb⟩;refine ⟨_,rfl,?_⟩;have n0_:=Aside0.mk (blk_below (g:=gb551) (o:=.cells #[.int .i64 a0_0,.bool false,.int .i64 a0_2] 30 (0,0)) q86_ hb);have n1_:=Aside0.mk (below_step q57_ hb);clear BK551;clear HB;have BK551:=n0_;have HB:=n1_;clear n0_ n1_;(try clear hb);have hcz29_0:w28.cell? ⟨gb551,0,none⟩ = some (.int .i64 a0_0):=(blk_cell BK551.out 0).trans rfl;have hcz29_1:w28.cell? ⟨gb551,1,none⟩ = some (.bool false):=(blk_cell BK551.out 1).trans rfl;have hcz29_2:w28.cell? ⟨gb551,2,none⟩ = some (.int .i64 a0_2):=(blk_cell BK551.out 2).trans rfl;have hfz29_0:=blk_frozen BK551.out 0;have hfz29_1:=blk_frozen BK551.out 1;have hfz29_2:=blk_frozen BK551.out 2) | ((with_reducible refine gate_dst (N:=38) rfl ?_);refine Kd.R_lit (Kd.int .u8) _ 5 ?hg (N:=38) ?hd (xs:=([(a0_0) % 256,(a0_2) % 256,(a0_2 / 256) % 256]:List Int)) (inner:=[.int .u8 ((a0_0) % 256),.int .u8 ((a0_2) % 256),.int .u8 ((a0_2 / 256) % 256)]) (ok:=fun _ => True) (okp:=fun _ => True) ?hr ?hp (fun _ hk => hk) trivial (Below.refl _ _) (Nat.le_refl _) (by simp) ?_;(case hd => rfl);(case hg => rfl);(case hr => exact q153_);(case hp => exact (Reps.one (show Kd.M (Kd.int .u8) _ _ _ ((a0_0) % 256) [.int .u8 ((a0_0) % 256)] from rfl) (Reps.one (show Kd.M (Kd.int .u8) _ _ _ ((a0_2) % 256) [.int .u8 ((a0_2) % 256)] from rfl) (Reps.one (show Kd.M (Kd.int .u8) _ _ _ ((a0_2 / 256) % 256) [.int .u8 ((a0_2 / 256) % 256)] from rfl) (Reps.none _ _)))));intro v561 w30 ho31 hb hg_ hnew_;clear hg_ hnew_;(first | rw [← Ny560.out] at ho31 | (simp only [Int.reduceToNat] at ho31;rw [← Ny560.out] at ho31));have n0_:=Aside0.mk (Kd.R_lower ho31 (below_size q57_));have n1_:=Aside0.mk (blk_below (g:=gb551) (o:=.cells #[.int .i64 a0_0,.bool false,.int .i64 a0_2] 30 (0,0)) q86_ hb);have n2_:=Aside0.mk (below_step q57_ hb);clear BK551;clear HB;have HO562:=n0_;have BK551:=n1_;have HB:=n2_;clear n0_ n1_ n2_;clear hb ho31;have hcv32:=own_string (P:=Tryz.prog) Tryz.underlying22 Tryz.underlying5 Tryz.underlying9 (Kd.own_of_R HO562.out);have hcvq32:=fun m_:Nat => own_string (P:=Tryz.prog) Tryz.underlying22 Tryz.underlying5 Tryz.underlying9 (Kd.own_of_R (Kd.R_drewN HO562.out m_))))
   go_ret
   exact ⟨q75_,q57_⟩
  rw [if_neg c23] at H
  have c23b0:(t556 == 3) = false:=beq_eq_false_iff_ne.mpr c23
  have c23b1:(t556 != 3) = true:=bne_iff_ne.mpr c23
  obtain ⟨y563,hy563⟩:∃ y_:List Int,y_ = (([(a0_0) % 256]:List Int)):=⟨_,rfl⟩
  replace H:(some (strOfNums y563)) = some r:=by first | (rw [hy563];exact H) | exact H
  have Ny563:=Aside0.mk hy563
  clear hy563
  obtain rfl:=Option.some.inj H
  go_enter Tryz.func19,Tryz.ntmps19
  go_wp2_with (first | ((with_reducible refine gate_dst (N:=1) rfl ?_);refine box_event ?hg (N:=1) ?hd (cs:=#[.int .i64 a0_0,.bool false,.int .i64 a0_2]) (t:=30) ?hr ?_;(case hd => rfl);(case hg => rfl);(case hr => exact q153_);intro gb551 hg w33 hbox hb;have n0_:=Aside0.mk (below_step q70_ hb);have n1_:=Aside0.mk (hbox);have n2_:=Aside0.mk ((q46_:w.heap.size ≤ gb551));have n3_:=Aside0.mk ((q46_:w.heap.size ≤ gb551));clear HB;have HB:=n0_;have BK551:=n1_;have GW551:=n2_;have GE551:=n3_;clear n0_ n1_ n2_ n3_;clear hb hbox hg;have hcz34_0:w33.cell? ⟨gb551,0,none⟩ = some (.int .i64 a0_0):=(blk_cell BK551.out 0).trans rfl;have hcz34_1:w33.cell? ⟨gb551,1,none⟩ = some (.bool false):=(blk_cell BK551.out 1).trans rfl;have hcz34_2:w33.cell? ⟨gb551,2,none⟩ = some (.int .i64 a0_2):=(blk_cell BK551.out 2).trans rfl;have hfz34_0:=blk_frozen BK551.out 0;have hfz34_1:=blk_frozen BK551.out 1;have hfz34_2:=blk_frozen BK551.out 2) | ((with_reducible refine gate_callee (f:=21) rfl ?_);refine goesL_ (some 4) rfl rfl Tryz.func21 (by kernel_rfl) rfl #[.agg #[.int .i64 a0_0,.bool false,.int .i64 a0_2]] rfl q68_ ?_;(with_reducible refine (spec_InsOk.calls k a0_0 false a0_2 true _ A2.out).mono ?_);rintro e w35 ⟨rfl,hb⟩;refine ⟨_,rfl,?_⟩;have n0_:=Aside0.mk (blk_below (g:=gb551) (o:=.cells #[.int .i64 a0_0,.bool false,.int .i64 a0_2] 30 (0,0)) q86_ hb);have n1_:=Aside0.mk (below_step q57_ hb);clear BK551;clear HB;have BK551:=n0_;have HB:=n1_;clear n0_ n1_;(try clear hb);have hcz36_0:w35.cell? ⟨gb551,0,none⟩ = some (.int .i64 a0_0):=(blk_cell BK551.out 0).trans rfl;have hcz36_1:w35.cell? ⟨gb551,1,none⟩ = some (.bool false):=(blk_cell BK551.out 1).trans rfl;have hcz36_2:w35.cell? ⟨gb551,2,none⟩ = some (.int .i64 a0_2):=(blk_cell BK551.out 2).trans rfl;have hfz36_0:=blk_frozen BK551.out 0;have hfz36_1:=blk_frozen BK551.out 1;have hfz36_2:=blk_frozen BK551.out 2) | ((with_reducible refine gate_callee (f:=52) rfl ?_);refine goesL_ (some 15) rfl rfl Tryz.func52 (by kernel_rfl) rfl #[.int .i64 a0_0,.bool false] rfl q68_ ?_;(with_reducible refine (spec_l3Length.calls k a0_0 false t556 _ A12.out).mono ?_);rintro e w37 ⟨rfl,hb⟩;refine ⟨_,rfl,?_⟩;have n0_:=Aside0.mk (blk_below (g:=gb551) (o:=.cells #[.int .i64 a0_0,.bool false,.int .i64 a0_2] 30 (0,0)) q86_ hb);have n1_:=Aside0.mk (below_step q57_ hb);clear BK551;clear HB;have BK551:=n0_;have HB:=n1_;clear n0_ n1_;(try clear hb);have hcz38_0:w37.cell? ⟨gb551,0,none⟩ = some (.int .i64 a0_0):=(blk_cell BK551.out 0).trans rfl;have hcz38_1:w37.cell? ⟨gb551,1,none⟩ = some (.bool false):=(blk_cell BK551.out 1).trans rfl;have hcz38_2:w37.cell? ⟨gb551,2,none⟩ = some (.int .i64 a0_2):=(blk_cell BK551.out 2).trans rfl;have hfz38_0:=blk_frozen BK551.out 0;have hfz38_1:=blk_frozen BK551.out 1;have hfz38_2:=blk_frozen BK551.out 2) | ((with_reducible refine gate_dst (N:=43) rfl ?_);refine Kd.R_lit (Kd.int .u8) _ 5 ?hg (N:=43) ?hd (xs:=([(a0_0) % 256]:List Int)) (inner:=[.int .u8 ((a0_0) % 256)]) (ok:=fun _ => True) (okp:=fun _ => True) ?hr ?hp (fun _ hk => hk) trivial (Below.refl _ _) (Nat.le_refl _) (by simp) ?_;(case hd => rfl);(case hg => rfl);(case hr => exact q153_);(case hp => exact (Reps.one (show Kd.M (Kd.int .u8) _ _ _ ((a0_0) % 256) [.int .u8 ((a0_0) % 256)] from rfl) (Reps.none _ _)));intro v564 w39 ho40 hb hg_ hnew_;clear hg_ hnew_;(first | rw [← Ny563.out] at ho40 | (simp only [Int.reduceToNat] at ho40;rw [← Ny563.out] at ho40));have n0_:=Aside0.mk (Kd.R_lower ho40 (below_size q57_));have n1_:=Aside0.mk (blk_below (g:=gb551) (o:=.cells #[.int .i64 a0_0,.bool false,.int .i64 a0_2] 30 (0,0)) q86_ hb);have n2_:=Aside0.mk (below_step q57_ hb);clear BK551;clear HB;have HO565:=n0_;have BK551:=n1_;have HB:=n2_;clear n0_ n1_ n2_;clear hb ho40;have hcv41:=own_string (P:=Tryz.prog) Tryz.underlying22 Tryz.underlying5 Tryz.underlying9 (Kd.own_of_R HO565.out);have hcvq41:=fun m_:Nat => own_string (P:=Tryz.prog) Tryz.underlying22 Tryz.underlying5 Tryz.underlying9 (Kd.own_of_R (Kd.R_drewN HO565.out m_))))
  go_ret
  exact ⟨q75_,q57_⟩
 replace c3:=Bool.eq_false_iff.mpr c3
 subst c3
 rewrite [if_neg (show ¬ (false = true) by decide)] at H
 obtain rfl:=Option.some.inj H
 go_enter Tryz.func19,Tryz.ntmps19
 go_wp2_with (first | ((with_reducible refine gate_dst (N:=1) rfl ?_);refine box_event ?hg (N:=1) ?hd (cs:=#[.int .i64 a0_0,.bool a0_1,.int .i64 a0_2]) (t:=30) ?hr ?_;(case hd => rfl);(case hg => rfl);(case hr => exact q153_);intro gb551 hg w42 hbox hb;have n0_:=Aside0.mk (below_step q70_ hb);have n1_:=Aside0.mk (hbox);have n2_:=Aside0.mk ((q46_:w.heap.size ≤ gb551));have n3_:=Aside0.mk ((q46_:w.heap.size ≤ gb551));clear HB;have HB:=n0_;have BK551:=n1_;have GW551:=n2_;have GE551:=n3_;clear n0_ n1_ n2_ n3_;clear hb hbox hg;have hcz43_0:w42.cell? ⟨gb551,0,none⟩ = some (.int .i64 a0_0):=(blk_cell BK551.out 0).trans rfl;have hcz43_1:w42.cell? ⟨gb551,1,none⟩ = some (.bool a0_1):=(blk_cell BK551.out 1).trans rfl;have hcz43_2:w42.cell? ⟨gb551,2,none⟩ = some (.int .i64 a0_2):=(blk_cell BK551.out 2).trans rfl;have hfz43_0:=blk_frozen BK551.out 0;have hfz43_1:=blk_frozen BK551.out 1;have hfz43_2:=blk_frozen BK551.out 2) | ((with_reducible refine gate_callee (f:=21) rfl ?_);refine goesL_ (some 4) rfl rfl Tryz.func21 (by kernel_rfl) rfl #[.agg #[.int .i64 a0_0,.bool a0_1,.int .i64 a0_2]] rfl q68_ ?_;(with_reducible refine (spec_InsOk.calls k a0_0 a0_1 a0_2 false _ A2.out).mono ?_);rintro e w44 ⟨rfl,hb⟩;refine ⟨_,rfl,?_⟩;have n0_:=Aside0.mk (blk_below (g:=gb551) (o:=.cells #[.int .i64 a0_0,.bool a0_1,.int .i64 a0_2] 30 (0,0)) q86_ hb);have n1_:=Aside0.mk (below_step q57_ hb);clear BK551;clear HB;have BK551:=n0_;have HB:=n1_;clear n0_ n1_;(try clear hb)))
 go_ret
 exact ⟨q75_,q57_⟩
def spec_l1Rd_once.f (s0_0:List Int) (s0_1:Int) (a1:Int):Option (Bool × Int):=(spec_l1Rd_below.f s0_0 s0_1 a1).bind fun bt566 => (some ((bt566.1 == (wrap64 (a1 - 1))),bt566.2))
theorem spec_l1Rd_once.calls (g:Nat) (s0_0:List Int) (s0_1:Int) (a1:Int) (r1:Bool) (r2:Int) (w0 w:World) (hI:IsS96 w0 w g s0_0 s0_1) (hB:Below w0.heap.size w0 w) (h:spec_l1Rd_once.f s0_0 s0_1 a1 = some (r1,r2)) :
  Calls Tryz.prog 45 #[.pointer (some ⟨g,0,none⟩),.int .i64 a1] w fun e w' => e = .returned (.bool r1) ∧ IsS96 w0 w' g s0_0 r2 ∧ Below w0.heap.size w0 w' ∧ KeepBut w w' g none:=by
 have HI0:=Aside0.mk hI
 have HK:=Aside0.mk (KeepBut.refl w g none)
 have HL:=Aside0.mk hB.size
 clear hI
 have HW0:=Aside0.mk hB.size
 have HB:=Aside0.mk hB
 clear hB
 have H:=h;unfold spec_l1Rd_once.f at H
 clear h
 replace H:=Option.bind_eq_some_iff.mp H
 obtain ⟨⟨t566,t567⟩,A30,H⟩:=H
 try dsimp -simprocs -eta only at H
 have A3:=Aside0.mk A30
 clear A30
 simp only [Option.some.injEq,Prod.mk.injEq] at H
 obtain ⟨rfl,rfl⟩:=H
 go_enter Tryz.func45,Tryz.ntmps45
 go_wp2_with (first | ((with_reducible refine gate_callee (f:=44) rfl ?_);refine goesL_ (some 7) rfl rfl Tryz.func44 (by kernel_rfl) rfl #[.pointer (some ⟨g,0,none⟩),.int .i64 a1] rfl q68_ ?_;(with_reducible refine (spec_l1Rd_below.calls g s0_0 s0_1 a1 t566 t567 w0 _ ?side1 ?side2 A3.out).mono ?_);(case side1 => exact q152_);(case side2 => exact q148_);rintro e w4 ⟨rfl,hi,hb,hk⟩;refine ⟨_,rfl,?_⟩;have n0_:=Aside0.mk (KeepBut.trans q63_ hk (.inl rfl));have n1_:=Aside0.mk (hb);have n2_:=Aside0.mk (hi);clear HK;clear HB;clear HI0;have HK:=n0_;have HB:=n1_;have HI0:=n2_;clear n0_ n1_ n2_;(try clear hb);(try clear hk);(try clear hi)))
 go_ret
 exact ⟨q75_,q62_,q44_,q63_⟩
def spec_l1Rd_byte.f (s0_0:List Int) (s0_1:Int):Option (Int × Int):=(spec_l1Rd_once.f s0_0 s0_1 2).bind fun bt568 => (if bt568.1 = true then ((some (([0,1,127,128,255,15,16,240]:List Int):List Int)).bind fun y570 => ((spec_l1Rd_below.f s0_0 bt568.2 8).bind fun bt573 => (if 0 ≤ bt573.1 then (if bt573.1 < (y570.length:Int) then (some (rd y570 bt573.1,bt573.2)) else (none)) else (none)))) else ((spec_l1Rd_below.f s0_0 bt568.2 256).bind fun bt576 => (some (bt576.1,bt576.2))))
theorem spec_l1Rd_byte.calls (g:Nat) (s0_0:List Int) (s0_1:Int) (r1:Int) (r2:Int) (w0 w:World) (hI:IsS96 w0 w g s0_0 s0_1) (hB:Below w0.heap.size w0 w) (h:spec_l1Rd_byte.f s0_0 s0_1 = some (r1,r2)) :
  Calls Tryz.prog 104 #[.pointer (some ⟨g,0,none⟩)] w fun e w' => e = .returned (.int .i64 r1) ∧ IsS96 w0 w' g s0_0 r2 ∧ Below w0.heap.size w0 w' ∧ KeepBut w w' g none:=by
 have HI0:=Aside0.mk hI
 have HK:=Aside0.mk (KeepBut.refl w g none)
 have HL:=Aside0.mk hB.size
 clear hI
 have HW0:=Aside0.mk hB.size
 have HB:=Aside0.mk hB
 clear hB
 have H:=h;unfold spec_l1Rd_byte.f at H
 clear h
 replace H:=Option.bind_eq_some_iff.mp H
 obtain ⟨⟨t568,t569⟩,A20,H⟩:=H
 try dsimp -simprocs -eta only at H
 have A2:=Aside0.mk A20
 clear A20
 by_cases c3:t568 = true
 ·subst c3
  rewrite [if_pos rfl] at H
  obtain ⟨y570,hy570⟩:∃ y_:List Int,y_ = (([0,1,127,128,255,15,16,240]:List Int)):=⟨_,rfl⟩
  replace H:((spec_l1Rd_below.f s0_0 t569 8).bind fun bt573 => (if 0 ≤ bt573.1 then (if bt573.1 < (y570.length:Int) then (some (rd y570 bt573.1,bt573.2)) else (none)) else (none))) = some (r1,r2):=by first | (rw [hy570];exact H) | exact H
  have Ny570:=Aside0.mk hy570
  clear hy570
  replace H:=Option.bind_eq_some_iff.mp H
  obtain ⟨⟨t573,t574⟩,A40,H⟩:=H
  try dsimp -simprocs -eta only at H
  have A4:=Aside0.mk A40
  clear A40
  by_cases c5:0 ≤ t573
  rotate_left
  ·rw [if_neg c5] at H
   exact absurd H (by simp)
  rw [if_pos c5] at H
  have c5b0:=decide_eq_true c5
  clear c5
  by_cases c6:t573 < (y570.length:Int)
  rotate_left
  ·rw [if_neg c6] at H
   exact absurd H (by simp)
  rw [if_pos c6] at H
  have c6b0:=decide_eq_true c6
  clear c6
  simp only [Option.some.injEq,Prod.mk.injEq] at H
  obtain ⟨rfl,rfl⟩:=H
  go_enter Tryz.func104,Tryz.ntmps104
  go_wp2_with (first | ((with_reducible refine gate_callee (f:=45) rfl ?_);refine goesL_ (some 4) rfl rfl Tryz.func45 (by kernel_rfl) rfl #[.pointer (some ⟨g,0,none⟩),.int .i64 2] rfl q68_ ?_;(with_reducible refine (spec_l1Rd_once.calls g s0_0 s0_1 2 true t569 w0 _ ?side1 ?side2 A2.out).mono ?_);(case side1 => exact q152_);(case side2 => exact q148_);rintro e w7 ⟨rfl,hi,hb,hk⟩;refine ⟨_,rfl,?_⟩;have n0_:=Aside0.mk (KeepBut.trans q63_ hk (.inl rfl));have n1_:=Aside0.mk (hb);have n2_:=Aside0.mk (hi);clear HK;clear HB;clear HI0;have HK:=n0_;have HB:=n1_;have HI0:=n2_;clear n0_ n1_ n2_;(try clear hb);(try clear hk);(try clear hi)) | ((with_reducible refine gate_dst (N:=5) rfl ?_);refine Kd.R_lit (Kd.int .i64) _ 2 ?hg (N:=5) ?hd (xs:=([0,1,127,128,255,15,16,240]:List Int)) (inner:=[.int .i64 0,.int .i64 1,.int .i64 127,.int .i64 128,.int .i64 255,.int .i64 15,.int .i64 16,.int .i64 240]) (ok:=fun _ => True) (okp:=fun _ => True) ?hr ?hp (fun _ hk => hk) trivial (Below.refl _ _) (Nat.le_refl _) (by simp) ?_;(case hd => rfl);(case hg => rfl);(case hr => exact q153_);(case hp => exact (Reps.one (show Kd.M (Kd.int .i64) _ _ _ 0 [.int .i64 0] from rfl) (Reps.one (show Kd.M (Kd.int .i64) _ _ _ 1 [.int .i64 1] from rfl) (Reps.one (show Kd.M (Kd.int .i64) _ _ _ 127 [.int .i64 127] from rfl) (Reps.one (show Kd.M (Kd.int .i64) _ _ _ 128 [.int .i64 128] from rfl) (Reps.one (show Kd.M (Kd.int .i64) _ _ _ 255 [.int .i64 255] from rfl) (Reps.one (show Kd.M (Kd.int .i64) _ _ _ 15 [.int .i64 15] from rfl) (Reps.one (show Kd.M (Kd.int .i64) _ _ _ 16 [.int .i64 16] from rfl) (Reps.one (show Kd.M (Kd.int .i64) _ _ _ 240 [.int .i64 240] from rfl) (Reps.none _ _))))))))));intro v571 w8 ho9 hb hg_ hnew_;clear hg_ hnew_;(first | rw [← Ny570.out] at ho9 | (simp only [Int.reduceToNat] at ho9;rw [← Ny570.out] at ho9));have n0_:=Aside0.mk (Kd.R_lower ho9 (keep_size (w:=w) (g:=g) (row:=none) q63_));have n1_:=Aside0.mk (IsS96.below q62_ hb);have n2_:=Aside0.mk (KeepBut.trans q63_ (KeepBut.of_below hb g none) (.inl rfl));have n3_:=Aside0.mk (below_step q44_ hb);clear HI0;clear HK;clear HB;have HO572:=n0_;have HI0:=n1_;have HK:=n2_;have HB:=n3_;clear n0_ n1_ n2_ n3_;clear hb ho9) | ((with_reducible refine gate_callee (f:=44) rfl ?_);refine goesL_ (some 7) rfl rfl Tryz.func44 (by kernel_rfl) rfl #[.pointer (some ⟨g,0,none⟩),.int .i64 8] rfl q68_ ?_;(with_reducible refine (spec_l1Rd_below.calls g s0_0 t569 8 t573 t574 w0 _ ?side1 ?side2 A4.out).mono ?_);(case side1 => exact q152_);(case side2 => exact q148_);rintro e w10 ⟨rfl,hi,hb,hk⟩;refine ⟨_,rfl,?_⟩;have n0_:=Aside0.mk (Kd.R_mono (Kd.R_keep (IsS96.apart (show IsS96 w0 _ g s0_0 t569 from by repeat (first | (with_reducible first | exact HI0.out | apply IsS96.alloc | apply IsS96.drewN | apply IsS96.drew | apply IsS96.set_1) | exact HI0.out)) (by (with_reducible repeat (first | apply Kd.R_alloc | apply Kd.R_drewN | apply Kd.R_drew));exact HO572.out) (by decide)) hk (fun _ h => h.2)) (fun _ h => h.1));have n1_:=Aside0.mk (KeepBut.trans q63_ hk (.inl rfl));have n2_:=Aside0.mk (hb);have n3_:=Aside0.mk (hi);clear HO572;clear HK;clear HB;clear HI0;have HO572:=n0_;have HK:=n1_;have HB:=n2_;have HI0:=n3_;clear n0_ n1_ n2_ n3_;(try clear hb);(try clear hk);(try clear hi);obtain ⟨Ao11,co11,eo11⟩:=Kd.R_slice HO572.out;subst eo11;have p575:0 ≤ (t573:Int):=of_decide_eq_true q119_;have q575:t573 < (y570.length:Int):=of_decide_eq_true q119_;obtain ⟨ad575,e575,hx575_0⟩:=Kd.at_int (Kd.R_reads' HO572.out).2.2 t573 p575 q575;cases e575;replace p575:=eq_true p575;replace q575:=eq_true q575))
  go_ret
  exact ⟨q75_,q62_,q44_,q63_⟩
 replace c3:=Bool.eq_false_iff.mpr c3
 subst c3
 rewrite [if_neg (show ¬ (false = true) by decide)] at H
 replace H:=Option.bind_eq_some_iff.mp H
 obtain ⟨⟨t576,t577⟩,A120,H⟩:=H
 try dsimp -simprocs -eta only at H
 have A12:=Aside0.mk A120
 clear A120
 simp only [Option.some.injEq,Prod.mk.injEq] at H
 obtain ⟨rfl,rfl⟩:=H
 go_enter Tryz.func104,Tryz.ntmps104
 go_wp2_with (first | ((with_reducible refine gate_callee (f:=45) rfl ?_);refine goesL_ (some 4) rfl rfl Tryz.func45 (by kernel_rfl) rfl #[.pointer (some ⟨g,0,none⟩),.int .i64 2] rfl q68_ ?_;(with_reducible refine (spec_l1Rd_once.calls g s0_0 s0_1 2 false t569 w0 _ ?side1 ?side2 A2.out).mono ?_);(case side1 => exact q152_);(case side2 => exact q148_);rintro e w13 ⟨rfl,hi,hb,hk⟩;refine ⟨_,rfl,?_⟩;have n0_:=Aside0.mk (KeepBut.trans q63_ hk (.inl rfl));have n1_:=Aside0.mk (hb);have n2_:=Aside0.mk (hi);clear HK;clear HB;clear HI0;have HK:=n0_;have HB:=n1_;have HI0:=n2_;clear n0_ n1_ n2_;(try clear hb);(try clear hk);(try clear hi)) | ((with_reducible refine gate_callee (f:=44) rfl ?_);refine goesL_ (some 11) rfl rfl Tryz.func44 (by kernel_rfl) rfl #[.pointer (some ⟨g,0,none⟩),.int .i64 256] rfl q68_ ?_;(with_reducible refine (spec_l1Rd_below.calls g s0_0 t569 256 t576 t577 w0 _ ?side1 ?side2 A12.out).mono ?_);(case side1 => exact q152_);(case side2 => exact q148_);rintro e w14 ⟨rfl,hi,hb,hk⟩;refine ⟨_,rfl,?_⟩;have n0_:=Aside0.mk (KeepBut.trans q63_ hk (.inl rfl));have n1_:=Aside0.mk (hb);have n2_:=Aside0.mk (hi);clear HK;clear HB;clear HI0;have HK:=n0_;have HB:=n1_;have HI0:=n2_;clear n0_ n1_ n2_;(try clear hb);(try clear hk);(try clear hi)))
 go_ret
 exact ⟨q75_,q62_,q44_,q63_⟩
def spec_l1Rd_word.l0:Nat → Int → Int → List Int → Int → Option (Int × Int)
 | 0,_,_,_,_ => none
 | k + 1,x3,x4,x1000,x1001 => if x4 < 8 then ((spec_l1Rd_next.f x1000 x1001).bind fun bt578 => (spec_l1Rd_word.l0 k (Go.bits .or .u64 (IntKind.u64.wrap (x3 * 256)) (IntKind.u64.wrap (bt578.1))) (wrap64 (x4 + 1)) x1000 bt578.2)) else (some (x3,x1001))
def spec_l1Rd_word.f (k:Nat) (s0_0:List Int) (s0_1:Int):Option (Int × Int):=spec_l1Rd_word.l0 k 0 0 s0_0 s0_1
theorem spec_l1Rd_word.mono_l:∀ k,(∀ y0 y1 y2 y3,LeO (spec_l1Rd_word.l0 k y0 y1 y2 y3) (spec_l1Rd_word.l0 (k + 1) y0 y1 y2 y3))
 | 0 => fun _ _ _ _ r h => by simp [spec_l1Rd_word.l0] at h
 | k + 1 => by
  have ih0:=spec_l1Rd_word.mono_l k
  intro y0 y1 y2 y3
  unfold spec_l1Rd_word.l0
  repeat' first
  | (with_reducible first | exact ih0 _ _ _ _ | exact LeO.refl _ | exact LeO.none _ | refine LeO.ite ?_ ?_ | refine LeO.bind ?_ (fun _ => ?_))
  | exact ih0 _ _ _ _
  | exact LeO.none _
  | refine LeO.ite ?_ ?_
  | refine LeO.bind ?_ (fun _ => ?_)
theorem spec_l1Rd_word.mono:∀ a0 a1 k,LeO (spec_l1Rd_word.f k a0 a1) (spec_l1Rd_word.f (k + 1) a0 a1):=by
 intro a0 a1 k
 have ih0:=spec_l1Rd_word.mono_l k
 unfold spec_l1Rd_word.f
 repeat' first
   | (with_reducible first | exact ih0 _ _ _ _ | exact LeO.refl _ | exact LeO.none _ | refine LeO.ite ?_ ?_ | refine LeO.bind ?_ (fun _ => ?_))
   | exact ih0 _ _ _ _
   | exact LeO.none _
   | refine LeO.ite ?_ ?_
   | refine LeO.bind ?_ (fun _ => ?_)
theorem spec_l1Rd_word.calls (k:Nat) (g:Nat) (s0_0:List Int) (s0_1:Int) (r1:Int) (r2:Int) (w0 w:World) (hI:IsS96 w0 w g s0_0 s0_1) (hB:Below w0.heap.size w0 w) (h:spec_l1Rd_word.f k s0_0 s0_1 = some (r1,r2)) :
  Calls Tryz.prog 158 #[.pointer (some ⟨g,0,none⟩)] w fun e w' => e = .returned (.int .u64 r1) ∧ IsS96 w0 w' g s0_0 r2 ∧ Below w0.heap.size w0 w' ∧ KeepBut w w' g none:=by
 have HI0:=Aside0.mk hI
 have HK:=Aside0.mk (KeepBut.refl w g none)
 have HL:=Aside0.mk hB.size
 clear hI
 have HW0:=Aside0.mk hB.size
 have HB:=Aside0.mk hB
 clear hB
 have H:(spec_l1Rd_word.l0 k 0 0 s0_0 s0_1) = some (r1,r2):=h
 clear h
 have H':=Aside0.mk H
 clear H
 go_enter Tryz.func158,Tryz.ntmps158
 go_wp2
 go_loopg [3,4] k (fun kq v3 v4 w' => ∃ (x3_1:Int) (x4_1:Int) (x1001_1:Int),v3 = .int .u64 x3_1 ∧ v4 = .int .i64 x4_1 ∧ Aside0 (spec_l1Rd_word.l0 kq x3_1 x4_1 s0_0 x1001_1 = some (r1,r2)) ∧ Aside0 (kq ≤ k) ∧ Aside0 (IsS96 w0 w' g s0_0 x1001_1) ∧ Aside0 (KeepBut w w' g none) ∧ Aside0 (Below w0.heap.size w0 w'))
 case atStart => exact ⟨(0),(0),(s0_1),q94_,q94_,H',⟨Nat.le_refl _⟩,⟨q62_⟩,⟨q63_⟩,⟨q44_⟩⟩
 clear H'
 try clear c1
 obtain ⟨x3_1,x4_1,x1001_1,rfl,rfl,HA,HK1,HI0,HK,HB⟩:=hrel
 cases gk with
 | zero => exact absurd HA.out (by simp [spec_l1Rd_word.l0])
 | succ k1 =>
  have H:=HA.out
  clear HA
  simp only [spec_l1Rd_word.l0] at H
  by_cases c2:x4_1 < 8
  ·rw [if_pos c2] at H
   have c2b0:=decide_eq_true c2
   clear c2
   replace H:=Option.bind_eq_some_iff.mp H
   obtain ⟨⟨t578,t579⟩,A30,H⟩:=H
   try dsimp -simprocs -eta only at H
   have A3:=Aside0.mk A30
   clear A30
   have H':=Aside0.mk H
   clear H
   go_wp2_with (first | ((with_reducible refine gate_callee (f:=91) rfl ?_);refine goesL_ (some 12) rfl rfl Tryz.func91 (by kernel_rfl) rfl #[.pointer (some ⟨g,0,none⟩)] rfl q68_ ?_;(with_reducible refine (spec_l1Rd_next.calls g s0_0 x1001_1 t578 t579 w0 _ ?side1 ?side2 A3.out).mono ?_);(case side1 => exact q152_);(case side2 => exact q148_);rintro e w4 ⟨rfl,hi,hb,hk⟩;refine ⟨_,rfl,?_⟩;have n0_:=Aside0.mk (KeepBut.trans q63_ hk (.inl rfl));have n1_:=Aside0.mk (hb);have n2_:=Aside0.mk (hi);clear HK;clear HB;clear HI0;have HK:=n0_;have HB:=n1_;have HI0:=n2_;clear n0_ n1_ n2_;(try clear hb);(try clear hk);(try clear hi)))
   go_roundg k1
   case measure => have:=HK1.out;omega
   case rel => exact ⟨(Go.bits .or .u64 (IntKind.u64.wrap (x3_1 * 256)) (IntKind.u64.wrap (t578))),(wrap64 (x4_1 + 1)),(t579),q94_,q94_,H',⟨by have:=HK1.out;omega⟩,⟨q62_⟩,⟨q63_⟩,⟨q44_⟩⟩
  rw [if_neg c2] at H
  have c2b0:=decide_eq_false c2
  clear c2
  simp only [Option.some.injEq,Prod.mk.injEq] at H
  obtain ⟨rfl,rfl⟩:=H
  go_wp2
  go_ret
  exact ⟨q75_,q62_,q44_,q63_⟩
end Go.Proofs.YtodlnnoekccmmaaGreatDoor.QFnMarks
