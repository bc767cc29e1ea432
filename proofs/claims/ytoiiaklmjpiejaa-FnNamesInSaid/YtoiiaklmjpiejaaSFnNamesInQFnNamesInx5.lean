/- The machine's side of a law,written by a program of this session for this claim. -/
import Derived.Test.YtoiiaklmjpiejaaSFnNamesInQq
import Derived.Test.YtoiiaklmjpiejaaSFnNamesInQFnNamesInx0
import Derived.Test.YtoiiaklmjpiejaaSFnNamesInQFnNamesInx4
namespace Go.Proofs.Ytoiiaklmjpiejaa.QFnNamesIn
open Go.Proofs.Ytoiiaklmjpiejaa.Qq
open Go.RowKit Go.Proofs.Ytoiiaklmjpiejaa.LibX Go.Proofs.Ytoiiaklmjpiejaa.LibG Go.Proofs.Ytoiiaklmjpiejaa.LibCv Go.Proofs.Ytoiiaklmjpiejaa.LibNm Go.Proofs.YtoiiaklmjpiejaaW.PrintWords Go.Proofs.YtoiiaklmjpiejaaW.PrintLast Go.Proofs.YtoiiaklmjpiejaaW.PrintMore
attribute [local go_sem] max2_int min2_int max_two min_two max_three min_three max_four min_four   -- for this text's walks alone
set_option maxHeartbeats 8000000
set_option maxRecDepth 100000
set_option linter.unusedVariables false
set_option linter.unusedSimpArgs false
def impl_ExprOk.l0:Nat → Int → List (S30) → Int → Int → Option (Bool)
 | 0,_,_,_,_ => none
 | k + 1,x3,x9,x10,x11 => if x11 < x10 then (if 0 ≤ x11 then (if x11 < (x9.length:Int) then ((impl_isNode.f k ((rd_T30 x9 x11).f0) ((rd_T30 x9 x11).f1) ((rd_T30 x9 x11).f2)).bind fun t214 => (if t214 = true then (if ((rd_T30 x9 x11).f0) ≤ 3 then (impl_ExprOk.l0 k (wrap64 (x3 + 1)) x9 x10 (wrap64 (x11 + 1))) else (if ((rd_T30 x9 x11).f0) ≤ 7 then (if x3 < 1 then (some false) else (impl_ExprOk.l0 k x3 x9 x10 (wrap64 (x11 + 1)))) else (if x3 < 2 then (some false) else (impl_ExprOk.l0 k (wrap64 (x3 - 1)) x9 x10 (wrap64 (x11 + 1)))))) else (some false))) else (none)) else (none)) else (some (x3 == 1))
def impl_ExprOk.f (k:Nat) (l0:List (S30)):Option (Bool):=if (l0.length:Int) > 30 then (some false) else (impl_ExprOk.l0 k 0 l0 (l0.length:Int) 0)
theorem impl_ExprOk.mono_l:∀ k,(∀ y0 y1 y2 y3,LeO (impl_ExprOk.l0 k y0 y1 y2 y3) (impl_ExprOk.l0 (k + 1) y0 y1 y2 y3))
 | 0 => fun _ _ _ _ r h => by simp [impl_ExprOk.l0] at h
 | k + 1 => by
  have ih0:=impl_ExprOk.mono_l k
  intro y0 y1 y2 y3
  unfold impl_ExprOk.l0
  repeat' first
  | (with_reducible first | exact ih0 _ _ _ _ | exact impl_isNode.mono _ _ _ _ | exact LeO.refl _ | exact LeO.none _ | refine LeO.ite ?_ ?_ | refine LeO.bind ?_ (fun _ => ?_))
  | exact ih0 _ _ _ _
  | exact impl_isNode.mono _ _ _ _
  | exact LeO.none _
  | refine LeO.ite ?_ ?_
  | refine LeO.bind ?_ (fun _ => ?_)
theorem impl_ExprOk.mono:∀ a0 k,LeO (impl_ExprOk.f k a0) (impl_ExprOk.f (k + 1) a0):=by
 intro a0 k
 have ih0:=impl_ExprOk.mono_l k
 unfold impl_ExprOk.f
 repeat' first
   | (with_reducible first | exact ih0 _ _ _ _ | exact impl_isNode.mono _ _ _ _ | exact LeO.refl _ | exact LeO.none _ | refine LeO.ite ?_ ?_ | refine LeO.bind ?_ (fun _ => ?_))
   | exact ih0 _ _ _ _
   | exact impl_isNode.mono _ _ _ _
   | exact LeO.none _
   | refine LeO.ite ?_ ?_
   | refine LeO.bind ?_ (fun _ => ?_)
theorem impl_ExprOk.calls (k:Nat) (A0:Option Addr) (c0:Nat) (l0:List (S30)) (r:Bool) (w:World) (hr0:Kd.C k30 w A0 l0.length l0) (hc0:l0.length ≤ c0) (h:impl_ExprOk.f k l0 = some r) :
  Calls Try.prog 10 #[.slice A0 l0.length c0] w fun e w' => e = .returned (.bool r) ∧ Below w.heap.size w w':=by
 have hu30:=Try.underlying30
 have HR0:=Aside0.mk hr0
 have HC0:=Aside0.mk hc0
 clear hr0 hc0
 have HB:=Aside0.mk (Below.refl w.heap.size w)
 have H:=h;unfold impl_ExprOk.f at H
 clear h
 by_cases c2:(l0.length:Int) > 30
 ·rw [if_pos c2] at H
  have c2b0:decide (30 < (l0.length:Int)) = true:=decide_eq_true c2
  have c2b1:decide (30 < l0.length) = true:=decide_eq_true (by omega)
  clear c2
  obtain rfl:=Option.some.inj H
  go_enter Try.func10,Try.ntmps10
  go_wp2
  go_ret
  exact ⟨q16_,q14_⟩
 rw [if_neg c2] at H
 have c2b0:decide (30 < (l0.length:Int)) = false:=decide_eq_false c2
 have c2b1:decide (30 < l0.length) = false:=decide_eq_false (by omega)
 clear c2
 have H':=Aside0.mk H
 clear H
 go_enter Try.func10,Try.ntmps10
 go_wp2
 go_loopg [3,11] k (fun kq v3 v11 w' => ∃ (x3_1:Int) (x11_1:Int),v3 = .int .i64 x3_1 ∧ v11 = .int .i64 x11_1 ∧ Aside0 (impl_ExprOk.l0 kq x3_1 l0 (l0.length:Int) x11_1 = some r) ∧ Aside0 (kq ≤ k) ∧ Aside0 (Below w.heap.size w w'))
 case atStart => exact ⟨(0),(0),q19_,q19_,H',⟨Nat.le_refl _⟩,⟨q14_⟩⟩
 clear H'
 try clear c1
 try clear c2
 try clear c2b0
 try clear c2b1
 try clear p2
 obtain ⟨x3_1,x11_1,rfl,rfl,HA,HK1,HB⟩:=hrel
 cases gk with
 | zero => exact absurd HA.out (by simp [impl_ExprOk.l0])
 | succ k1 =>
  have H:=HA.out
  clear HA
  simp only [impl_ExprOk.l0] at H
  by_cases c3:x11_1 < (l0.length:Int)
  ·rw [if_pos c3] at H
   have c3b0:=decide_eq_true c3
   clear c3
   by_cases c4:0 ≤ x11_1
   rotate_left
   ·rw [if_neg c4] at H
    exact absurd H (by simp)
   rw [if_pos c4] at H
   have c4b0:=decide_eq_true c4
   clear c4
   by_cases c5:x11_1 < (l0.length:Int)
   rotate_left
   ·rw [if_neg c5] at H
    exact absurd H (by simp)
   rw [if_pos c5] at H
   have c5b0:=decide_eq_true c5
   clear c5
   replace H:=Option.bind_eq_some_iff.mp H
   obtain ⟨t214,A60,H⟩:=H
   have A6:=Aside0.mk A60
   clear A60
   by_cases c7:t214 = true
   ·subst c7
    rewrite [if_pos rfl] at H
    by_cases c8:((rd_T30 l0 x11_1).f0) ≤ 3
    ·rw [if_pos c8] at H
     have c8b0:=decide_eq_true c8
     clear c8
     have H':=Aside0.mk H
     clear H
     have p212:0 ≤ (x11_1:Int):=of_decide_eq_true q32_
     have q212:x11_1 < (l0.length:Int):=of_decide_eq_true q32_
     obtain ⟨ad212,e212,hx212_0,hx212_1,hx212_2⟩:=at_T30 HR0.out x11_1 p212 q212
     cases e212
     replace hx212_0:=(HB.out.cell (World.block_lt_of_cell? w _ hx212_0)).trans hx212_0
     replace hx212_1:=(HB.out.cell (World.block_lt_of_cell? w _ hx212_1)).trans hx212_1
     replace hx212_2:=(HB.out.cell (World.block_lt_of_cell? w _ hx212_2)).trans hx212_2
     replace p212:=eq_true p212
     replace q212:=eq_true q212
     go_wp2_with (first | ((with_reducible refine gate_dst (N:=5) rfl ?_);refine box_event ?hg (N:=5) ?hd (cs:=#[.int .i64 0,.int .i64 0,.string (⟨#[]⟩:ByteArray)]) (t:=30) ?hr ?_;(case hd => rfl);(case hg => rfl);(case hr => exact q42_);intro gb213 hg w9 hbox hb;have n0_:=Aside0.mk (below_step q14_ hb);have n1_:=Aside0.mk (hbox);have n2_:=Aside0.mk ((q6_:w.heap.size ≤ gb213));have n3_:=Aside0.mk ((q6_:w.heap.size ≤ gb213));clear HB;have HB:=n0_;have BK213:=n1_;have GW213:=n2_;have GE213:=n3_;clear n0_ n1_ n2_ n3_;clear hb hbox hg;have hcz10_0:w9.cell? ⟨gb213,0,none⟩ = some (.int .i64 0):=(blk_cell BK213.out 0).trans rfl;have hcz10_1:w9.cell? ⟨gb213,1,none⟩ = some (.int .i64 0):=(blk_cell BK213.out 1).trans rfl;have hcz10_2:w9.cell? ⟨gb213,2,none⟩ = some (.string (⟨#[]⟩:ByteArray)):=(blk_cell BK213.out 2).trans rfl;have hfz10_0:=blk_frozen BK213.out 0;have hfz10_1:=blk_frozen BK213.out 1;have hfz10_2:=blk_frozen BK213.out 2) | ((with_reducible refine gate_callee (f:=16) rfl ?_);refine goesL_ (some 16) rfl rfl Try.func16 (by kernel_rfl) rfl #[.agg #[.int .i64 ((rd_T30 l0 x11_1).f0),.int .i64 ((rd_T30 l0 x11_1).f1),.string ((rd_T30 l0 x11_1).f2)]] rfl q13_ ?_;(with_reducible refine (impl_isNode.calls k1 ((rd_T30 l0 x11_1).f0) ((rd_T30 l0 x11_1).f1) ((rd_T30 l0 x11_1).f2) true _ A6.out).mono ?_);rintro e w11 ⟨rfl,hb⟩;refine ⟨_,rfl,?_⟩;have n0_:=Aside0.mk (blk_below (g:=gb213) (o:=.cells #[.int .i64 ((rd_T30 l0 x11_1).f0),.int .i64 ((rd_T30 l0 x11_1).f1),.string ((rd_T30 l0 x11_1).f2)] 30 (0,0)) q0_ hb);have n1_:=Aside0.mk (below_step q8_ hb);clear BK213;clear HB;have BK213:=n0_;have HB:=n1_;clear n0_ n1_;(try clear hb);have hcz12_0:w11.cell? ⟨gb213,0,none⟩ = some (.int .i64 ((rd_T30 l0 x11_1).f0)):=(blk_cell BK213.out 0).trans rfl;have hcz12_1:w11.cell? ⟨gb213,1,none⟩ = some (.int .i64 ((rd_T30 l0 x11_1).f1)):=(blk_cell BK213.out 1).trans rfl;have hcz12_2:w11.cell? ⟨gb213,2,none⟩ = some (.string ((rd_T30 l0 x11_1).f2)):=(blk_cell BK213.out 2).trans rfl;have hfz12_0:=blk_frozen BK213.out 0;have hfz12_1:=blk_frozen BK213.out 1;have hfz12_2:=blk_frozen BK213.out 2))
     go_roundg k1
     case measure => have:=HK1.out;omega
     case rel => exact ⟨(wrap64 (x3_1 + 1)),(wrap64 (x11_1 + 1)),q19_,q19_,H',⟨by have:=HK1.out;omega⟩,⟨q8_⟩⟩
    rw [if_neg c8] at H
    have c8b0:=decide_eq_false c8
    clear c8
    by_cases c13:((rd_T30 l0 x11_1).f0) ≤ 7
    ·rw [if_pos c13] at H
     have c13b0:=decide_eq_true c13
     clear c13
     by_cases c14:x3_1 < 1
     ·rw [if_pos c14] at H
      have c14b0:=decide_eq_true c14
      clear c14
      obtain rfl:=Option.some.inj H
      have p212:0 ≤ (x11_1:Int):=of_decide_eq_true q32_
      have q212:x11_1 < (l0.length:Int):=of_decide_eq_true q32_
      obtain ⟨ad212,e212,hx212_0,hx212_1,hx212_2⟩:=at_T30 HR0.out x11_1 p212 q212
      cases e212
      replace hx212_0:=(HB.out.cell (World.block_lt_of_cell? w _ hx212_0)).trans hx212_0
      replace hx212_1:=(HB.out.cell (World.block_lt_of_cell? w _ hx212_1)).trans hx212_1
      replace hx212_2:=(HB.out.cell (World.block_lt_of_cell? w _ hx212_2)).trans hx212_2
      replace p212:=eq_true p212
      replace q212:=eq_true q212
      go_wp2_with (first | ((with_reducible refine gate_dst (N:=5) rfl ?_);refine box_event ?hg (N:=5) ?hd (cs:=#[.int .i64 0,.int .i64 0,.string (⟨#[]⟩:ByteArray)]) (t:=30) ?hr ?_;(case hd => rfl);(case hg => rfl);(case hr => exact q42_);intro gb213 hg w15 hbox hb;have n0_:=Aside0.mk (below_step q14_ hb);have n1_:=Aside0.mk (hbox);have n2_:=Aside0.mk ((q6_:w.heap.size ≤ gb213));have n3_:=Aside0.mk ((q6_:w.heap.size ≤ gb213));clear HB;have HB:=n0_;have BK213:=n1_;have GW213:=n2_;have GE213:=n3_;clear n0_ n1_ n2_ n3_;clear hb hbox hg;have hcz16_0:w15.cell? ⟨gb213,0,none⟩ = some (.int .i64 0):=(blk_cell BK213.out 0).trans rfl;have hcz16_1:w15.cell? ⟨gb213,1,none⟩ = some (.int .i64 0):=(blk_cell BK213.out 1).trans rfl;have hcz16_2:w15.cell? ⟨gb213,2,none⟩ = some (.string (⟨#[]⟩:ByteArray)):=(blk_cell BK213.out 2).trans rfl;have hfz16_0:=blk_frozen BK213.out 0;have hfz16_1:=blk_frozen BK213.out 1;have hfz16_2:=blk_frozen BK213.out 2) | ((with_reducible refine gate_callee (f:=16) rfl ?_);refine goesL_ (some 16) rfl rfl Try.func16 (by kernel_rfl) rfl #[.agg #[.int .i64 ((rd_T30 l0 x11_1).f0),.int .i64 ((rd_T30 l0 x11_1).f1),.string ((rd_T30 l0 x11_1).f2)]] rfl q13_ ?_;(with_reducible refine (impl_isNode.calls k1 ((rd_T30 l0 x11_1).f0) ((rd_T30 l0 x11_1).f1) ((rd_T30 l0 x11_1).f2) true _ A6.out).mono ?_);rintro e w17 ⟨rfl,hb⟩;refine ⟨_,rfl,?_⟩;have n0_:=Aside0.mk (blk_below (g:=gb213) (o:=.cells #[.int .i64 ((rd_T30 l0 x11_1).f0),.int .i64 ((rd_T30 l0 x11_1).f1),.string ((rd_T30 l0 x11_1).f2)] 30 (0,0)) q0_ hb);have n1_:=Aside0.mk (below_step q8_ hb);clear BK213;clear HB;have BK213:=n0_;have HB:=n1_;clear n0_ n1_;(try clear hb);have hcz18_0:w17.cell? ⟨gb213,0,none⟩ = some (.int .i64 ((rd_T30 l0 x11_1).f0)):=(blk_cell BK213.out 0).trans rfl;have hcz18_1:w17.cell? ⟨gb213,1,none⟩ = some (.int .i64 ((rd_T30 l0 x11_1).f1)):=(blk_cell BK213.out 1).trans rfl;have hcz18_2:w17.cell? ⟨gb213,2,none⟩ = some (.string ((rd_T30 l0 x11_1).f2)):=(blk_cell BK213.out 2).trans rfl;have hfz18_0:=blk_frozen BK213.out 0;have hfz18_1:=blk_frozen BK213.out 1;have hfz18_2:=blk_frozen BK213.out 2))
      go_ret
      exact ⟨q16_,q8_⟩
     rw [if_neg c14] at H
     have c14b0:=decide_eq_false c14
     clear c14
     have H':=Aside0.mk H
     clear H
     have p212:0 ≤ (x11_1:Int):=of_decide_eq_true q32_
     have q212:x11_1 < (l0.length:Int):=of_decide_eq_true q32_
     obtain ⟨ad212,e212,hx212_0,hx212_1,hx212_2⟩:=at_T30 HR0.out x11_1 p212 q212
     cases e212
     replace hx212_0:=(HB.out.cell (World.block_lt_of_cell? w _ hx212_0)).trans hx212_0
     replace hx212_1:=(HB.out.cell (World.block_lt_of_cell? w _ hx212_1)).trans hx212_1
     replace hx212_2:=(HB.out.cell (World.block_lt_of_cell? w _ hx212_2)).trans hx212_2
     replace p212:=eq_true p212
     replace q212:=eq_true q212
     go_wp2_with (first | ((with_reducible refine gate_dst (N:=5) rfl ?_);refine box_event ?hg (N:=5) ?hd (cs:=#[.int .i64 0,.int .i64 0,.string (⟨#[]⟩:ByteArray)]) (t:=30) ?hr ?_;(case hd => rfl);(case hg => rfl);(case hr => exact q42_);intro gb213 hg w19 hbox hb;have n0_:=Aside0.mk (below_step q14_ hb);have n1_:=Aside0.mk (hbox);have n2_:=Aside0.mk ((q6_:w.heap.size ≤ gb213));have n3_:=Aside0.mk ((q6_:w.heap.size ≤ gb213));clear HB;have HB:=n0_;have BK213:=n1_;have GW213:=n2_;have GE213:=n3_;clear n0_ n1_ n2_ n3_;clear hb hbox hg;have hcz20_0:w19.cell? ⟨gb213,0,none⟩ = some (.int .i64 0):=(blk_cell BK213.out 0).trans rfl;have hcz20_1:w19.cell? ⟨gb213,1,none⟩ = some (.int .i64 0):=(blk_cell BK213.out 1).trans rfl;have hcz20_2:w19.cell? ⟨gb213,2,none⟩ = some (.string (⟨#[]⟩:ByteArray)):=(blk_cell BK213.out 2).trans rfl;have hfz20_0:=blk_frozen BK213.out 0;have hfz20_1:=blk_frozen BK213.out 1;have hfz20_2:=blk_frozen BK213.out 2) | ((with_reducible refine gate_callee (f:=16) rfl ?_);refine goesL_ (some 16) rfl rfl Try.func16 (by kernel_rfl) rfl #[.agg #[.int .i64 ((rd_T30 l0 x11_1).f0),.int .i64 ((rd_T30 l0 x11_1).f1),.string ((rd_T30 l0 x11_1).f2)]] rfl q13_ ?_;(with_reducible refine (impl_isNode.calls k1 ((rd_T30 l0 x11_1).f0) ((rd_T30 l0 x11_1).f1) ((rd_T30 l0 x11_1).f2) true _ A6.out).mono ?_);rintro e w21 ⟨rfl,hb⟩;refine ⟨_,rfl,?_⟩;have n0_:=Aside0.mk (blk_below (g:=gb213) (o:=.cells #[.int .i64 ((rd_T30 l0 x11_1).f0),.int .i64 ((rd_T30 l0 x11_1).f1),.string ((rd_T30 l0 x11_1).f2)] 30 (0,0)) q0_ hb);have n1_:=Aside0.mk (below_step q8_ hb);clear BK213;clear HB;have BK213:=n0_;have HB:=n1_;clear n0_ n1_;(try clear hb);have hcz22_0:w21.cell? ⟨gb213,0,none⟩ = some (.int .i64 ((rd_T30 l0 x11_1).f0)):=(blk_cell BK213.out 0).trans rfl;have hcz22_1:w21.cell? ⟨gb213,1,none⟩ = some (.int .i64 ((rd_T30 l0 x11_1).f1)):=(blk_cell BK213.out 1).trans rfl;have hcz22_2:w21.cell? ⟨gb213,2,none⟩ = some (.string ((rd_T30 l0 x11_1).f2)):=(blk_cell BK213.out 2).trans rfl;have hfz22_0:=blk_frozen BK213.out 0;have hfz22_1:=blk_frozen BK213.out 1;have hfz22_2:=blk_frozen BK213.out 2))
     go_roundg k1
     case measure => have:=HK1.out;omega
     case rel => exact ⟨(x3_1),(wrap64 (x11_1 + 1)),q19_,q19_,H',⟨by have:=HK1.out;omega⟩,⟨q8_⟩⟩
    rw [if_neg c13] at H
    have c13b0:=decide_eq_false c13
    clear c13
    by_cases c23:x3_1 < 2
    ·rw [if_pos c23] at H
     have c23b0:=decide_eq_true c23
     clear c23
     obtain rfl:=Option.some.inj H
     have p212:0 ≤ (x11_1:Int):=of_decide_eq_true q32_
     have q212:x11_1 < (l0.length:Int):=of_decide_eq_true q32_
     obtain ⟨ad212,e212,hx212_0,hx212_1,hx212_2⟩:=at_T30 HR0.out x11_1 p212 q212
     cases e212
     replace hx212_0:=(HB.out.cell (World.block_lt_of_cell? w _ hx212_0)).trans hx212_0
     replace hx212_1:=(HB.out.cell (World.block_lt_of_cell? w _ hx212_1)).trans hx212_1
     replace hx212_2:=(HB.out.cell (World.block_lt_of_cell? w _ hx212_2)).trans hx212_2
     replace p212:=eq_true p212
     replace q212:=eq_true q212
     go_wp2_with (first | ((with_reducible refine gate_dst (N:=5) rfl ?_);refine box_event ?hg (N:=5) ?hd (cs:=#[.int .i64 0,.int .i64 0,.string (⟨#[]⟩:ByteArray)]) (t:=30) ?hr ?_;(case hd => rfl);(case hg => rfl);(case hr => exact q42_);intro gb213 hg w24 hbox hb;have n0_:=Aside0.mk (below_step q14_ hb);have n1_:=Aside0.mk (hbox);have n2_:=Aside0.mk ((q6_:w.heap.size ≤ gb213));have n3_:=Aside0.mk ((q6_:w.heap.size ≤ gb213));clear HB;have HB:=n0_;have BK213:=n1_;have GW213:=n2_;have GE213:=n3_;clear n0_ n1_ n2_ n3_;clear hb hbox hg;have hcz25_0:w24.cell? ⟨gb213,0,none⟩ = some (.int .i64 0):=(blk_cell BK213.out 0).trans rfl;have hcz25_1:w24.cell? ⟨gb213,1,none⟩ = some (.int .i64 0):=(blk_cell BK213.out 1).trans rfl;have hcz25_2:w24.cell? ⟨gb213,2,none⟩ = some (.string (⟨#[]⟩:ByteArray)):=(blk_cell BK213.out 2).trans rfl;have hfz25_0:=blk_frozen BK213.out 0;have hfz25_1:=blk_frozen BK213.out 1;have hfz25_2:=blk_frozen BK213.out 2) | ((with_reducible refine gate_callee (f:=16) rfl ?_);refine goesL_ (some 16) rfl rfl Try.func16 (by kernel_rfl) rfl #[.agg #[.int .i64 ((rd_T30 l0 x11_1).f0),.int .i64 ((rd_T30 l0 x11_1).f1),.string ((rd_T30 l0 x11_1).f2)]] rfl q13_ ?_;(with_reducible refine (impl_isNode.calls k1 ((rd_T30 l0 x11_1).f0) ((rd_T30 l0 x11_1).f1) ((rd_T30 l0 x11_1).f2) true _ A6.out).mono ?_);rintro e w26 ⟨rfl,hb⟩;refine ⟨_,rfl,?_⟩;have n0_:=Aside0.mk (blk_below (g:=gb213) (o:=.cells #[.int .i64 ((rd_T30 l0 x11_1).f0),.int .i64 ((rd_T30 l0 x11_1).f1),.string ((rd_T30 l0 x11_1).f2)] 30 (0,0)) q0_ hb);have n1_:=Aside0.mk (below_step q8_ hb);clear BK213;clear HB;have BK213:=n0_;have HB:=n1_;clear n0_ n1_;(try clear hb);have hcz27_0:w26.cell? ⟨gb213,0,none⟩ = some (.int .i64 ((rd_T30 l0 x11_1).f0)):=(blk_cell BK213.out 0).trans rfl;have hcz27_1:w26.cell? ⟨gb213,1,none⟩ = some (.int .i64 ((rd_T30 l0 x11_1).f1)):=(blk_cell BK213.out 1).trans rfl;have hcz27_2:w26.cell? ⟨gb213,2,none⟩ = some (.string ((rd_T30 l0 x11_1).f2)):=(blk_cell BK213.out 2).trans rfl;have hfz27_0:=blk_frozen BK213.out 0;have hfz27_1:=blk_frozen BK213.out 1;have hfz27_2:=blk_frozen BK213.out 2))
     go_ret
     exact ⟨q16_,q8_⟩
    rw [if_neg c23] at H
    have c23b0:=decide_eq_false c23
    clear c23
    have H':=Aside0.mk H
    clear H
    have p212:0 ≤ (x11_1:Int):=of_decide_eq_true q32_
    have q212:x11_1 < (l0.length:Int):=of_decide_eq_true q32_
    obtain ⟨ad212,e212,hx212_0,hx212_1,hx212_2⟩:=at_T30 HR0.out x11_1 p212 q212
    cases e212
    replace hx212_0:=(HB.out.cell (World.block_lt_of_cell? w _ hx212_0)).trans hx212_0
    replace hx212_1:=(HB.out.cell (World.block_lt_of_cell? w _ hx212_1)).trans hx212_1
    replace hx212_2:=(HB.out.cell (World.block_lt_of_cell? w _ hx212_2)).trans hx212_2
    replace p212:=eq_true p212
    replace q212:=eq_true q212
    go_wp2_with (first | ((with_reducible refine gate_dst (N:=5) rfl ?_);refine box_event ?hg (N:=5) ?hd (cs:=#[.int .i64 0,.int .i64 0,.string (⟨#[]⟩:ByteArray)]) (t:=30) ?hr ?_;(case hd => rfl);(case hg => rfl);(case hr => exact q42_);intro gb213 hg w28 hbox hb;have n0_:=Aside0.mk (below_step q14_ hb);have n1_:=Aside0.mk (hbox);have n2_:=Aside0.mk ((q6_:w.heap.size ≤ gb213));have n3_:=Aside0.mk ((q6_:w.heap.size ≤ gb213));clear HB;have HB:=n0_;have BK213:=n1_;have GW213:=n2_;have GE213:=n3_;clear n0_ n1_ n2_ n3_;clear hb hbox hg;have hcz29_0:w28.cell? ⟨gb213,0,none⟩ = some (.int .i64 0):=(blk_cell BK213.out 0).trans rfl;have hcz29_1:w28.cell? ⟨gb213,1,none⟩ = some (.int .i64 0):=(blk_cell BK213.out 1).trans rfl;have hcz29_2:w28.cell? ⟨gb213,2,none⟩ = some (.string (⟨#[]⟩:ByteArray)):=(blk_cell BK213.out 2).trans rfl;have hfz29_0:=blk_frozen BK213.out 0;have hfz29_1:=blk_frozen BK213.out 1;have hfz29_2:=blk_frozen BK213.out 2) | ((with_reducible refine gate_callee (f:=16) rfl ?_);refine goesL_ (some 16) rfl rfl Try.func16 (by kernel_rfl) rfl #[.agg #[.int .i64 ((rd_T30 l0 x11_1).f0),.int .i64 ((rd_T30 l0 x11_1).f1),.string ((rd_T30 l0 x11_1).f2)]] rfl q13_ ?_;(with_reducible refine (impl_isNode.calls k1 ((rd_T30 l0 x11_1).f0) ((rd_T30 l0 x11_1).f1) ((rd_T30 l0 x11_1).f2) true _ A6.out).mono ?_);rintro e w30 ⟨rfl,hb⟩;refine ⟨_,rfl,?_⟩;have n0_:=Aside0.mk (blk_below (g:=gb213) (o:=.cells #[.int .i64 ((rd_T30 l0 x11_1).f0),.int .i64 ((rd_T30 l0 x11_1).f1),.string ((rd_T30 l0 x11_1).f2)] 30 (0,0)) q0_ hb);have n1_:=Aside0.mk (below_step q8_ hb);clear BK213;clear HB;have BK213:=n0_;have HB:=n1_;clear n0_ n1_;(try clear hb);have hcz31_0:w30.cell? ⟨gb213,0,none⟩ = some (.int .i64 ((rd_T30 l0 x11_1).f0)):=(blk_cell BK213.out 0).trans rfl;have hcz31_1:w30.cell? ⟨gb213,1,none⟩ = some (.int .i64 ((rd_T30 l0 x11_1).f1)):=(blk_cell BK213.out 1).trans rfl;have hcz31_2:w30.cell? ⟨gb213,2,none⟩ = some (.string ((rd_T30 l0 x11_1).f2)):=(blk_cell BK213.out 2).trans rfl;have hfz31_0:=blk_frozen BK213.out 0;have hfz31_1:=blk_frozen BK213.out 1;have hfz31_2:=blk_frozen BK213.out 2))
    go_roundg k1
    case measure => have:=HK1.out;omega
    case rel => exact ⟨(wrap64 (x3_1 - 1)),(wrap64 (x11_1 + 1)),q19_,q19_,H',⟨by have:=HK1.out;omega⟩,⟨q8_⟩⟩
   replace c7:=Bool.eq_false_iff.mpr c7
   subst c7
   rewrite [if_neg (show ¬ (false = true) by decide)] at H
   obtain rfl:=Option.some.inj H
   have p212:0 ≤ (x11_1:Int):=of_decide_eq_true q32_
   have q212:x11_1 < (l0.length:Int):=of_decide_eq_true q32_
   obtain ⟨ad212,e212,hx212_0,hx212_1,hx212_2⟩:=at_T30 HR0.out x11_1 p212 q212
   cases e212
   replace hx212_0:=(HB.out.cell (World.block_lt_of_cell? w _ hx212_0)).trans hx212_0
   replace hx212_1:=(HB.out.cell (World.block_lt_of_cell? w _ hx212_1)).trans hx212_1
   replace hx212_2:=(HB.out.cell (World.block_lt_of_cell? w _ hx212_2)).trans hx212_2
   replace p212:=eq_true p212
   replace q212:=eq_true q212
   go_wp2_with (first | ((with_reducible refine gate_dst (N:=5) rfl ?_);refine box_event ?hg (N:=5) ?hd (cs:=#[.int .i64 0,.int .i64 0,.string (⟨#[]⟩:ByteArray)]) (t:=30) ?hr ?_;(case hd => rfl);(case hg => rfl);(case hr => exact q42_);intro gb213 hg w32 hbox hb;have n0_:=Aside0.mk (below_step q14_ hb);have n1_:=Aside0.mk (hbox);have n2_:=Aside0.mk ((q6_:w.heap.size ≤ gb213));have n3_:=Aside0.mk ((q6_:w.heap.size ≤ gb213));clear HB;have HB:=n0_;have BK213:=n1_;have GW213:=n2_;have GE213:=n3_;clear n0_ n1_ n2_ n3_;clear hb hbox hg;have hcz33_0:w32.cell? ⟨gb213,0,none⟩ = some (.int .i64 0):=(blk_cell BK213.out 0).trans rfl;have hcz33_1:w32.cell? ⟨gb213,1,none⟩ = some (.int .i64 0):=(blk_cell BK213.out 1).trans rfl;have hcz33_2:w32.cell? ⟨gb213,2,none⟩ = some (.string (⟨#[]⟩:ByteArray)):=(blk_cell BK213.out 2).trans rfl;have hfz33_0:=blk_frozen BK213.out 0;have hfz33_1:=blk_frozen BK213.out 1;have hfz33_2:=blk_frozen BK213.out 2) | ((with_reducible refine gate_callee (f:=16) rfl ?_);refine goesL_ (some 16) rfl rfl Try.func16 (by kernel_rfl) rfl #[.agg #[.int .i64 ((rd_T30 l0 x11_1).f0),.int .i64 ((rd_T30 l0 x11_1).f1),.string ((rd_T30 l0 x11_1).f2)]] rfl q13_ ?_;(with_reducible refine (impl_isNode.calls k1 ((rd_T30 l0 x11_1).f0) ((rd_T30 l0 x11_1).f1) ((rd_T30 l0 x11_1).f2) false _ A6.out).mono ?_);rintro e w34 ⟨rfl,hb⟩;refine ⟨_,rfl,?_⟩;have n0_:=Aside0.mk (blk_below (g:=gb213) (o:=.cells #[.int .i64 ((rd_T30 l0 x11_1).f0),.int .i64 ((rd_T30 l0 x11_1).f1),.string ((rd_T30 l0 x11_1).f2)] 30 (0,0)) q0_ hb);have n1_:=Aside0.mk (below_step q8_ hb);clear BK213;clear HB;have BK213:=n0_;have HB:=n1_;clear n0_ n1_;(try clear hb)))
   go_ret
   exact ⟨q16_,q8_⟩
  rw [if_neg c3] at H
  have c3b0:=decide_eq_false c3
  clear c3
  obtain rfl:=Option.some.inj H
  go_wp2
  go_ret
  exact ⟨q16_,q14_⟩
def impl_NamesIn.f (k:Nat) (l0:List (S30)):Option (List ByteArray):=(impl_ExprOk.f k l0).bind fun t215 => (if t215 = true then ((impl_namesIn.f l0).bind fun t216 => (some t216)) else (some ([]:List ByteArray)))
theorem impl_NamesIn.mono:∀ a0 k,LeO (impl_NamesIn.f k a0) (impl_NamesIn.f (k + 1) a0):=by
 intro a0 k
 unfold impl_NamesIn.f
 repeat' first
   | (with_reducible first | exact impl_ExprOk.mono _ _ | exact LeO.refl _ | exact LeO.none _ | refine LeO.ite ?_ ?_ | refine LeO.bind ?_ (fun _ => ?_))
   | exact impl_ExprOk.mono _ _
   | exact LeO.none _
   | refine LeO.ite ?_ ?_
   | refine LeO.bind ?_ (fun _ => ?_)
theorem impl_NamesIn.calls (k:Nat) (A0:Option Addr) (c0:Nat) (l0:List (S30)) (r:List ByteArray) (w:World) (hr0:Kd.C k30 w A0 l0.length l0) (hc0:l0.length ≤ c0) (h:impl_NamesIn.f k l0 = some r) :
  Calls Try.prog 6 #[.slice A0 l0.length c0] w fun e w' => ∃ v0_:Value,e = .returned (v0_) ∧ Kd.R Kd.string 9 w' w.heap.size (fun _ => True) v0_ r ∧ Below w.heap.size w w':=by
 have HR0:=Aside0.mk hr0
 have HC0:=Aside0.mk hc0
 clear hr0 hc0
 have HB:=Aside0.mk (Below.refl w.heap.size w)
 have H:=h;unfold impl_NamesIn.f at H
 clear h
 replace H:=Option.bind_eq_some_iff.mp H
 obtain ⟨t215,A20,H⟩:=H
 have A2:=Aside0.mk A20
 clear A20
 by_cases c3:t215 = true
 ·subst c3
  rewrite [if_pos rfl] at H
  replace H:=Option.bind_eq_some_iff.mp H
  obtain ⟨t216,A40,H⟩:=H
  have A4:=Aside0.mk A40
  clear A40
  obtain rfl:=Option.some.inj H
  go_enter Try.func6,Try.ntmps6
  go_wp2_with (first | ((with_reducible refine gate_callee (f:=10) rfl ?_);refine goesL_ (some 4) rfl rfl Try.func10 (by kernel_rfl) rfl #[.slice A0 l0.length c0] rfl q13_ ?_;(with_reducible refine (impl_ExprOk.calls k _ _ l0 true _ ?side1 ?side2 A2.out).mono ?_);(case side1 => exact q39_);(case side2 => exact HC0.out);rintro e w5 ⟨rfl,hb⟩;refine ⟨_,rfl,?_⟩;replace HB:=Aside0.mk (below_step q14_ hb);(try clear hb)) | ((with_reducible refine gate_callee (f:=11) rfl ?_);refine goesL_ (some 7) rfl rfl Try.func11 (by kernel_rfl) rfl #[.slice A0 l0.length c0] rfl q13_ ?_;(with_reducible refine (impl_namesIn.calls _ _ l0 t216 _ ?side1 ?side2 A4.out).mono ?_);(case side1 => exact q35_);(case side2 => exact HC0.out);rintro e w6 ⟨v217,rfl,ho0,hb⟩;refine ⟨_,rfl,?_⟩;have n0_:=Aside0.mk (Kd.R_lower ho0 (below_size q14_));have n1_:=Aside0.mk (below_step q14_ hb);clear HB;have HO218:=n0_;have HB:=n1_;clear n0_ n1_;(try clear hb);(try clear ho0)))
  go_ret
  exact ⟨_,q16_,by (with_reducible repeat (first | apply Kd.R_alloc | apply Kd.R_drewN | apply Kd.R_drew));exact HO218.out,q14_⟩
 replace c3:=Bool.eq_false_iff.mpr c3
 subst c3
 rewrite [if_neg (show ¬ (false = true) by decide)] at H
 obtain rfl:=Option.some.inj H
 go_enter Try.func6,Try.ntmps6
 go_wp2_with (first | ((with_reducible refine gate_callee (f:=10) rfl ?_);refine goesL_ (some 4) rfl rfl Try.func10 (by kernel_rfl) rfl #[.slice A0 l0.length c0] rfl q13_ ?_;(with_reducible refine (impl_ExprOk.calls k _ _ l0 false _ ?side1 ?side2 A2.out).mono ?_);(case side1 => exact q39_);(case side2 => exact HC0.out);rintro e w7 ⟨rfl,hb⟩;refine ⟨_,rfl,?_⟩;replace HB:=Aside0.mk (below_step q14_ hb);(try clear hb)))
 go_ret
 exact ⟨_,q16_,by first | exact Kd.R_nil _ _ _ _ _ | exact Kd.N_nil _ _ _ _ _ | exact Kd.V_nil _ _ _ _ _ | exact Kd.Q_nil _ _ _ _ _ | exact Kd.S_nil _ _ _ _ _,q14_⟩
def laws_sameTexts.l0:Nat → List ByteArray → List ByteArray → Int → Option (Bool)
 | 0,_,_,_ => none
 | k + 1,x0,x1,x5 => if x5 < (x0.length:Int) then (if 0 ≤ x5 then (if x5 < (x1.length:Int) then (if (rdOf ByteArray.empty x0 x5).toList = (rdOf ByteArray.empty x1 x5).toList then (laws_sameTexts.l0 k x0 x1 (wrap64 (x5 + 1))) else (some false)) else (none)) else (none)) else (some true)
def laws_sameTexts.f (k:Nat) (l0:List ByteArray) (l1:List ByteArray):Option (Bool):=if (l0.length:Int) = (l1.length:Int) then (laws_sameTexts.l0 k l0 l1 0) else (some false)
theorem laws_sameTexts.mono_l:∀ k,(∀ y0 y1 y2,LeO (laws_sameTexts.l0 k y0 y1 y2) (laws_sameTexts.l0 (k + 1) y0 y1 y2))
 | 0 => fun _ _ _ r h => by simp [laws_sameTexts.l0] at h
 | k + 1 => by
  have ih0:=laws_sameTexts.mono_l k
  intro y0 y1 y2
  unfold laws_sameTexts.l0
  repeat' first
  | (with_reducible first | exact ih0 _ _ _ | exact LeO.refl _ | exact LeO.none _ | refine LeO.ite ?_ ?_ | refine LeO.bind ?_ (fun _ => ?_))
  | exact ih0 _ _ _
  | exact LeO.none _
  | refine LeO.ite ?_ ?_
  | refine LeO.bind ?_ (fun _ => ?_)
theorem laws_sameTexts.mono:∀ a0 a1 k,LeO (laws_sameTexts.f k a0 a1) (laws_sameTexts.f (k + 1) a0 a1):=by
 intro a0 a1 k
 have ih0:=laws_sameTexts.mono_l k
 unfold laws_sameTexts.f
 repeat' first
   | (with_reducible first | exact ih0 _ _ _ | exact LeO.refl _ | exact LeO.none _ | refine LeO.ite ?_ ?_ | refine LeO.bind ?_ (fun _ => ?_))
   | exact ih0 _ _ _
   | exact LeO.none _
   | refine LeO.ite ?_ ?_
   | refine LeO.bind ?_ (fun _ => ?_)
theorem laws_sameTexts.calls (k:Nat) (A0:Option Addr) (c0:Nat) (l0:List ByteArray) (A1:Option Addr) (c1:Nat) (l1:List ByteArray) (r:Bool) (w:World) (hr0:Kd.C Kd.string w A0 l0.length l0) (hc0:l0.length ≤ c0) (hr1:Kd.C Kd.string w A1 l1.length l1) (hc1:l1.length ≤ c1) (h:laws_sameTexts.f k l0 l1 = some r) :
  Calls Try.prog 7 #[.slice A0 l0.length c0,.slice A1 l1.length c1] w fun e w' => e = .returned (.bool r) ∧ Drawn0 w w':=by
 have HR0:=Aside0.mk hr0
 have HC0:=Aside0.mk hc0
 clear hr0 hc0
 have HR1:=Aside0.mk hr1
 have HC1:=Aside0.mk hc1
 clear hr1 hc1
 have H:=h;unfold laws_sameTexts.f at H
 clear h
 by_cases c3:(l0.length:Int) = (l1.length:Int)
 ·rw [if_pos c3] at H
  have c3b0:((l0.length:Int) == (l1.length:Int)) = true:=beq_iff_eq.mpr c3
  have c3b1:((l0.length:Int) != (l1.length:Int)) = false:=bne_eq_false_iff_eq.mpr c3
  have c3b2:(l0.length == l1.length) = true:=by first | simpa using c3 | (simp at c3 ⊢;omega)
  clear c3
  have H':=Aside0.mk H
  clear H
  go_enter Try.func7,Try.ntmps7
  go_wp2
  repeat (go_quiet (fail);try go_wp2)
  go_loopg [5] k (fun kq v5 w' => ∃ (x5_1:Int),v5 = .int .i64 x5_1 ∧ Aside0 (laws_sameTexts.l0 kq l0 l1 x5_1 = some r) ∧ Aside0 (kq ≤ k) ∧ Drawn0 w w')
  case atStart => exact ⟨(0),q19_,H',⟨Nat.le_refl _⟩,q30_⟩
  clear H'
  try clear c1
  try clear p2
  try clear c3
  try clear c3b0
  try clear c3b1
  try clear c3b2
  obtain ⟨x5_1,rfl,HA,HK1,⟨m1,rfl⟩⟩:=hrel
  cases gk with
  | zero => exact absurd HA.out (by simp [laws_sameTexts.l0])
  | succ k1 =>
   have H:=HA.out
   clear HA
   simp only [laws_sameTexts.l0] at H
   by_cases c4:x5_1 < (l0.length:Int)
   ·rw [if_pos c4] at H
    have c4b0:=decide_eq_true c4
    clear c4
    by_cases c5:0 ≤ x5_1
    rotate_left
    ·rw [if_neg c5] at H
     exact absurd H (by simp)
    rw [if_pos c5] at H
    have c5b0:=decide_eq_true c5
    clear c5
    by_cases c6:x5_1 < (l1.length:Int)
    rotate_left
    ·rw [if_neg c6] at H
     exact absurd H (by simp)
    rw [if_pos c6] at H
    have c6b0:=decide_eq_true c6
    clear c6
    by_cases c7:(rdOf ByteArray.empty l0 x5_1).toList = (rdOf ByteArray.empty l1 x5_1).toList
    ·rw [if_pos c7] at H
     have c7b0:((rdOf ByteArray.empty l0 x5_1).toList == (rdOf ByteArray.empty l1 x5_1).toList) = true:=beq_iff_eq.mpr c7
     have c7b1:((rdOf ByteArray.empty l0 x5_1).toList != (rdOf ByteArray.empty l1 x5_1).toList) = false:=bne_eq_false_iff_eq.mpr c7
     clear c7
     have H':=Aside0.mk H
     clear H
     have p219:0 ≤ (x5_1:Int):=of_decide_eq_true q32_
     have q219:x5_1 < (l0.length:Int):=of_decide_eq_true q32_
     obtain ⟨ad219,e219,hx219_0⟩:=Kd.at_string HR0.out x5_1 p219 q219
     cases e219
     replace p219:=eq_true p219
     replace q219:=eq_true q219
     have p220:0 ≤ (x5_1:Int):=of_decide_eq_true q32_
     have q220:x5_1 < (l1.length:Int):=of_decide_eq_true q32_
     obtain ⟨ad220,e220,hx220_0⟩:=Kd.at_string HR1.out x5_1 p220 q220
     cases e220
     replace p220:=eq_true p220
     replace q220:=eq_true q220
     go_wp2
     repeat (go_quiet (fail);try go_wp2)
     go_roundg k1
     case measure => have:=HK1.out;omega
     case rel => exact ⟨(wrap64 (x5_1 + 1)),q19_,H',⟨by have:=HK1.out;omega⟩,q30_⟩
    rw [if_neg c7] at H
    have c7b0:((rdOf ByteArray.empty l0 x5_1).toList == (rdOf ByteArray.empty l1 x5_1).toList) = false:=beq_eq_false_iff_ne.mpr c7
    have c7b1:((rdOf ByteArray.empty l0 x5_1).toList != (rdOf ByteArray.empty l1 x5_1).toList) = true:=bne_iff_ne.mpr c7
    obtain rfl:=Option.some.inj H
    have p219:0 ≤ (x5_1:Int):=of_decide_eq_true q32_
    have q219:x5_1 < (l0.length:Int):=of_decide_eq_true q32_
    obtain ⟨ad219,e219,hx219_0⟩:=Kd.at_string HR0.out x5_1 p219 q219
    cases e219
    replace p219:=eq_true p219
    replace q219:=eq_true q219
    have p220:0 ≤ (x5_1:Int):=of_decide_eq_true q32_
    have q220:x5_1 < (l1.length:Int):=of_decide_eq_true q32_
    obtain ⟨ad220,e220,hx220_0⟩:=Kd.at_string HR1.out x5_1 p220 q220
    cases e220
    replace p220:=eq_true p220
    replace q220:=eq_true q220
    go_wp2
    repeat (go_quiet (fail);try go_wp2)
    go_ret
    exact ⟨q19_,q30_⟩
   rw [if_neg c4] at H
   have c4b0:=decide_eq_false c4
   clear c4
   obtain rfl:=Option.some.inj H
   go_wp2
   repeat (go_quiet (fail);try go_wp2)
   go_ret
   exact ⟨q19_,q30_⟩
 rw [if_neg c3] at H
 have c3b0:((l0.length:Int) == (l1.length:Int)) = false:=beq_eq_false_iff_ne.mpr c3
 have c3b1:((l0.length:Int) != (l1.length:Int)) = true:=bne_iff_ne.mpr c3
 have c3b2:(l0.length == l1.length) = false:=by first | simpa using c3 | (simp at c3 ⊢;omega)
 obtain rfl:=Option.some.inj H
 go_enter Try.func7,Try.ntmps7
 go_wp2
 repeat (go_quiet (fail);try go_wp2)
 go_ret
 exact ⟨q19_,q30_⟩
def spec_l1In.f (a0:Int) (a1:Int) (a2:Int):Option (Bool):=if a0 ≥ a1 then (some (decide (a0 ≤ a2))) else (some false)
theorem spec_l1In.calls (a0:Int) (a1:Int) (a2:Int) (r:Bool) (w:World) (h:spec_l1In.f a0 a1 a2 = some r) :
  Calls Try.prog 31 #[.int .i64 a0,.int .i64 a1,.int .i64 a2] w fun e w' => e = .returned (.bool r) ∧ Drawn0 w w':=by
 have H:=h;unfold spec_l1In.f at H
 clear h
 by_cases c4:a0 ≥ a1
 ·rw [if_pos c4] at H
  have c4b0:decide (a1 ≤ a0) = true:=decide_eq_true c4
  clear c4
  obtain rfl:=Option.some.inj H
  go_enter Try.func31,Try.ntmps31
  go_wp2
  go_ret
  exact ⟨q19_,q30_⟩
 rw [if_neg c4] at H
 have c4b0:decide (a1 ≤ a0) = false:=decide_eq_false c4
 clear c4
 obtain rfl:=Option.some.inj H
 go_enter Try.func31,Try.ntmps31
 go_wp2
 go_ret
 exact ⟨q19_,q30_⟩
def spec_l2Takes.f (a0:Int):Option (Int):=(spec_l1In.f a0 1 3).bind fun t221 => (if t221 = true then (some 0) else ((spec_l1In.f a0 4 7).bind fun t222 => (if t222 = true then (some 1) else ((spec_l1In.f a0 8 17).bind fun t223 => (if t223 = true then (some 2) else (some (-1)))))))
theorem spec_l2Takes.calls (a0:Int) (r:Int) (w:World) (h:spec_l2Takes.f a0 = some r) :
  Calls Try.prog 20 #[.int .i64 a0] w fun e w' => e = .returned (.int .i64 r) ∧ Drawn0 w w':=by
 have H:=h;unfold spec_l2Takes.f at H
 clear h
 replace H:=Option.bind_eq_some_iff.mp H
 obtain ⟨t221,A20,H⟩:=H
 have A2:=Aside0.mk A20
 clear A20
 by_cases c3:t221 = true
 ·subst c3
  rewrite [if_pos rfl] at H
  obtain rfl:=Option.some.inj H
  go_enter Try.func20,Try.ntmps20
  go_wp2_with (first | ((with_reducible refine gate_callee (f:=31) rfl ?_);refine goesL_ (some 5) rfl rfl Try.func31 (by kernel_rfl) rfl #[.int .i64 a0,.int .i64 1,.int .i64 3] rfl q13_ ?_;(with_reducible refine (spec_l1In.calls a0 1 3 true _ A2.out).mono ?_);rintro e w' ⟨rfl,⟨nd,rfl⟩⟩;refine ⟨_,rfl,?_⟩))
  go_ret
  exact ⟨q19_,q30_⟩
 replace c3:=Bool.eq_false_iff.mpr c3
 subst c3
 rewrite [if_neg (show ¬ (false = true) by decide)] at H
 replace H:=Option.bind_eq_some_iff.mp H
 obtain ⟨t222,A40,H⟩:=H
 have A4:=Aside0.mk A40
 clear A40
 by_cases c5:t222 = true
 ·subst c5
  rewrite [if_pos rfl] at H
  obtain rfl:=Option.some.inj H
  go_enter Try.func20,Try.ntmps20
  go_wp2_with (first | ((with_reducible refine gate_callee (f:=31) rfl ?_);refine goesL_ (some 5) rfl rfl Try.func31 (by kernel_rfl) rfl #[.int .i64 a0,.int .i64 1,.int .i64 3] rfl q13_ ?_;(with_reducible refine (spec_l1In.calls a0 1 3 false _ A2.out).mono ?_);rintro e w' ⟨rfl,⟨nd,rfl⟩⟩;refine ⟨_,rfl,?_⟩) | ((with_reducible refine gate_callee (f:=31) rfl ?_);refine goesL_ (some 8) rfl rfl Try.func31 (by kernel_rfl) rfl #[.int .i64 a0,.int .i64 4,.int .i64 7] rfl q13_ ?_;(with_reducible refine (spec_l1In.calls a0 4 7 true _ A4.out).mono ?_);rintro e w' ⟨rfl,⟨nd,rfl⟩⟩;refine ⟨_,rfl,?_⟩))
  go_ret
  exact ⟨q19_,q30_⟩
 replace c5:=Bool.eq_false_iff.mpr c5
 subst c5
 rewrite [if_neg (show ¬ (false = true) by decide)] at H
 replace H:=Option.bind_eq_some_iff.mp H
 obtain ⟨t223,A60,H⟩:=H
 have A6:=Aside0.mk A60
 clear A60
 by_cases c7:t223 = true
 ·subst c7
  rewrite [if_pos rfl] at H
  obtain rfl:=Option.some.inj H
  go_enter Try.func20,Try.ntmps20
  go_wp2_with (first | ((with_reducible refine gate_callee (f:=31) rfl ?_);refine goesL_ (some 5) rfl rfl Try.func31 (by kernel_rfl) rfl #[.int .i64 a0,.int .i64 1,.int .i64 3] rfl q13_ ?_;(with_reducible refine (spec_l1In.calls a0 1 3 false _ A2.out).mono ?_);rintro e w' ⟨rfl,⟨nd,rfl⟩⟩;refine ⟨_,rfl,?_⟩) | ((with_reducible refine gate_callee (f:=31) rfl ?_);refine goesL_ (some 8) rfl rfl Try.func31 (by kernel_rfl) rfl #[.int .i64 a0,.int .i64 4,.int .i64 7] rfl q13_ ?_;(with_reducible refine (spec_l1In.calls a0 4 7 false _ A4.out).mono ?_);rintro e w' ⟨rfl,⟨nd,rfl⟩⟩;refine ⟨_,rfl,?_⟩) | ((with_reducible refine gate_callee (f:=31) rfl ?_);refine goesL_ (some 11) rfl rfl Try.func31 (by kernel_rfl) rfl #[.int .i64 a0,.int .i64 8,.int .i64 17] rfl q13_ ?_;(with_reducible refine (spec_l1In.calls a0 8 17 true _ A6.out).mono ?_);rintro e w' ⟨rfl,⟨nd,rfl⟩⟩;refine ⟨_,rfl,?_⟩))
  go_ret
  exact ⟨q19_,q30_⟩
 replace c7:=Bool.eq_false_iff.mpr c7
 subst c7
 rewrite [if_neg (show ¬ (false = true) by decide)] at H
 obtain rfl:=Option.some.inj H
 go_enter Try.func20,Try.ntmps20
 go_wp2_with (first | ((with_reducible refine gate_callee (f:=31) rfl ?_);refine goesL_ (some 5) rfl rfl Try.func31 (by kernel_rfl) rfl #[.int .i64 a0,.int .i64 1,.int .i64 3] rfl q13_ ?_;(with_reducible refine (spec_l1In.calls a0 1 3 false _ A2.out).mono ?_);rintro e w' ⟨rfl,⟨nd,rfl⟩⟩;refine ⟨_,rfl,?_⟩) | ((with_reducible refine gate_callee (f:=31) rfl ?_);refine goesL_ (some 8) rfl rfl Try.func31 (by kernel_rfl) rfl #[.int .i64 a0,.int .i64 4,.int .i64 7] rfl q13_ ?_;(with_reducible refine (spec_l1In.calls a0 4 7 false _ A4.out).mono ?_);rintro e w' ⟨rfl,⟨nd,rfl⟩⟩;refine ⟨_,rfl,?_⟩) | ((with_reducible refine gate_callee (f:=31) rfl ?_);refine goesL_ (some 11) rfl rfl Try.func31 (by kernel_rfl) rfl #[.int .i64 a0,.int .i64 8,.int .i64 17] rfl q13_ ?_;(with_reducible refine (spec_l1In.calls a0 8 17 false _ A6.out).mono ?_);rintro e w' ⟨rfl,⟨nd,rfl⟩⟩;refine ⟨_,rfl,?_⟩))
 go_ret
 exact ⟨q19_,q30_⟩
def spec_l1Letter.f (a0:Int):Option (Bool):=if a0 ≥ 97 then (if a0 ≤ 122 then (some true) else (if a0 = 95 then (some true) else (some (a0 == 46)))) else (if a0 = 95 then (some true) else (some (a0 == 46)))
theorem spec_l1Letter.calls (a0:Int) (r:Bool) (w:World) (h:spec_l1Letter.f a0 = some r) :
  Calls Try.prog 50 #[.int .u8 a0] w fun e w' => e = .returned (.bool r) ∧ Drawn0 w w':=by
 have H:=h;unfold spec_l1Letter.f at H
 clear h
 by_cases c2:a0 ≥ 97
 ·rw [if_pos c2] at H
  have c2b0:decide (97 ≤ a0) = true:=decide_eq_true c2
  clear c2
  by_cases c3:a0 ≤ 122
  ·rw [if_pos c3] at H
   have c3b0:=decide_eq_true c3
   clear c3
   obtain rfl:=Option.some.inj H
   go_enter Try.func50,Try.ntmps50
   go_wp2
   go_ret
   exact ⟨q19_,q30_⟩
  rw [if_neg c3] at H
  have c3b0:=decide_eq_false c3
  clear c3
  by_cases c4:a0 = 95
  ·rw [if_pos c4] at H
   have c4b0:(a0 == 95) = true:=beq_iff_eq.mpr c4
   have c4b1:(a0 != 95) = false:=bne_eq_false_iff_eq.mpr c4
   clear c4
   obtain rfl:=Option.some.inj H
   go_enter Try.func50,Try.ntmps50
   go_wp2
   go_ret
   exact ⟨q19_,q30_⟩
  rw [if_neg c4] at H
  have c4b0:(a0 == 95) = false:=beq_eq_false_iff_ne.mpr c4
  have c4b1:(a0 != 95) = true:=bne_iff_ne.mpr c4
  obtain rfl:=Option.some.inj H
  go_enter Try.func50,Try.ntmps50
  go_wp2
  go_ret
  exact ⟨q19_,q30_⟩
 rw [if_neg c2] at H
 have c2b0:decide (97 ≤ a0) = false:=decide_eq_false c2
 clear c2
 by_cases c5:a0 = 95
 ·rw [if_pos c5] at H
  have c5b0:(a0 == 95) = true:=beq_iff_eq.mpr c5
  have c5b1:(a0 != 95) = false:=bne_eq_false_iff_eq.mpr c5
  clear c5
  obtain rfl:=Option.some.inj H
  go_enter Try.func50,Try.ntmps50
  go_wp2
  go_ret
  exact ⟨q19_,q30_⟩
 rw [if_neg c5] at H
 have c5b0:(a0 == 95) = false:=beq_eq_false_iff_ne.mpr c5
 have c5b1:(a0 != 95) = true:=bne_iff_ne.mpr c5
 obtain rfl:=Option.some.inj H
 go_enter Try.func50,Try.ntmps50
 go_wp2
 go_ret
 exact ⟨q19_,q30_⟩
end Go.Proofs.Ytoiiaklmjpiejaa.QFnNamesIn
