/- The machine's side of a law,written by a program of this session for this claim. -/
import Derived.Test.YtabbdfchibjndaaGreatDoorXQq
import Derived.Test.YtabbdfchibjndaaGreatDoorXQFnExprTextsx0
import Derived.Test.YtabbdfchibjndaaGreatDoorXQFnExprTextsx5
namespace Go.Proofs.YtabbdfchibjndaaGreatDoor.QFnExprTexts
open Go.Proofs.YtabbdfchibjndaaGreatDoor.Qq
open Go.RowKit Go.Proofs.YtabbdfchibjndaaGreatDoor.LibX Go.Proofs.YtabbdfchibjndaaGreatDoor.LibE Go.Proofs.YtabbdfchibjndaaGreatDoor.LibG Go.Proofs.YtabbdfchibjndaaGreatDoor.LibCv Go.Proofs.YtabbdfchibjndaaGreatDoorW.PrintWords Go.Proofs.YtabbdfchibjndaaGreatDoorW.PrintLast Go.Proofs.YtabbdfchibjndaaGreatDoorW.PrintMore
attribute [local go_sem] max2_int min2_int max_two min_two max_three min_three max_four min_four   -- for this text's walks alone
set_option maxHeartbeats 8000000
set_option maxRecDepth 100000
set_option linter.unusedVariables false
set_option linter.unusedSimpArgs false
def impl_ExprOk.l0:Nat → Int → List (S43) → Int → Int → Option (Bool)
 | 0,_,_,_,_ => none
 | k + 1,x3,x9,x10,x11 => if x11 < x10 then (if 0 ≤ x11 then (if x11 < (x9.length:Int) then ((impl_isNode.f k ((rd_T43 x9 x11).f0) ((rd_T43 x9 x11).f1) ((rd_T43 x9 x11).f2)).bind fun t214 => (if t214 = true then (if ((rd_T43 x9 x11).f0) ≤ 3 then (impl_ExprOk.l0 k (wrap64 (x3 + 1)) x9 x10 (wrap64 (x11 + 1))) else (if ((rd_T43 x9 x11).f0) ≤ 7 then (if x3 < 1 then (some false) else (impl_ExprOk.l0 k x3 x9 x10 (wrap64 (x11 + 1)))) else (if x3 < 2 then (some false) else (impl_ExprOk.l0 k (wrap64 (x3 - 1)) x9 x10 (wrap64 (x11 + 1)))))) else (some false))) else (none)) else (none)) else (some (x3 == 1))
def impl_ExprOk.f (k:Nat) (l0:List (S43)):Option (Bool):=if (l0.length:Int) > 30 then (some false) else (impl_ExprOk.l0 k 0 l0 (l0.length:Int) 0)
theorem impl_ExprOk.mono_l:∀ k,(∀ y0 y1 y2 y3,LeO (impl_ExprOk.l0 k y0 y1 y2 y3) (impl_ExprOk.l0 (k + 1) y0 y1 y2 y3))
 | 0 => fun _ _ _ _ r h => by simp [impl_ExprOk.l0] at h
 | k + 1 => by
  have ih0:=impl_ExprOk.mono_l k
  intro y0 y1 y2 y3
  unfold impl_ExprOk.l0
  repeat' first
  | (with_reducible first | exact ih0 _ _ _ _ | exact impl_isNode.mono _ _ _ _ | exact LeO.refl _ | exact LeO.none _ | refine LeO.ite ?_ ?_ | refine LeO.bind ?_ (fun _ => ?_))
  | exact ih0 _ _ _ _
  | exact impl_isNode.mono _ _ _ _
  | exact LeO.none _
  | refine LeO.ite ?_ ?_
  | refine LeO.bind ?_ (fun _ => ?_)
theorem impl_ExprOk.mono:∀ a0 k,LeO (impl_ExprOk.f k a0) (impl_ExprOk.f (k + 1) a0):=by
 intro a0 k
 have ih0:=impl_ExprOk.mono_l k
 unfold impl_ExprOk.f
 repeat' first
   | (with_reducible first | exact ih0 _ _ _ _ | exact impl_isNode.mono _ _ _ _ | exact LeO.refl _ | exact LeO.none _ | refine LeO.ite ?_ ?_ | refine LeO.bind ?_ (fun _ => ?_))
   | exact ih0 _ _ _ _
   | exact impl_isNode.mono _ _ _ _
   | exact LeO.none _
   | refine LeO.ite ?_ ?_
   | refine LeO.bind ?_ (fun _ => ?_)
theorem impl_ExprOk.calls (k:Nat) (A0:Option Addr) (c0:Nat) (l0:List (S43)) (r:Bool) (w:World) (hr0:Kd.C k43 w A0 l0.length l0) (hc0:l0.length ≤ c0) (h:impl_ExprOk.f k l0 = some r) :
  Calls Tryz.prog 9 #[.slice A0 l0.length c0] w fun e w' => e = .returned (.bool r) ∧ Below w.heap.size w w':=by
 have hu43:=Tryz.underlying43
 have HR0:=Aside0.mk hr0
 have HC0:=Aside0.mk hc0
 clear hr0 hc0
 have HB:=Aside0.mk (Below.refl w.heap.size w)
 have H:=h;unfold impl_ExprOk.f at H
 clear h
 by_cases c2:(l0.length:Int) > 30
 ·rw [if_pos c2] at H
  have c2b0:decide (30 < (l0.length:Int)) = true:=decide_eq_true c2
  have c2b1:decide (30 < l0.length) = true:=decide_eq_true (by omega)
  clear c2
  obtain rfl:=Option.some.inj H
  go_enter Tryz.func9,Tryz.ntmps9
  go_wp2
  go_ret
  exact ⟨q26_,q24_⟩
 rw [if_neg c2] at H
 have c2b0:decide (30 < (l0.length:Int)) = false:=decide_eq_false c2
 have c2b1:decide (30 < l0.length) = false:=decide_eq_false (by omega)
 clear c2
 have H':=Aside0.mk H
 clear H
 go_enter Tryz.func9,Tryz.ntmps9
 go_wp2
 go_loopg [3,11] k (fun kq v3 v11 w' => ∃ (x3_1:Int) (x11_1:Int),v3 = .int .i64 x3_1 ∧ v11 = .int .i64 x11_1 ∧ Aside0 (impl_ExprOk.l0 kq x3_1 l0 (l0.length:Int) x11_1 = some r) ∧ Aside0 (kq ≤ k) ∧ Aside0 (Below w.heap.size w w'))
 case atStart => exact ⟨(0),(0),q31_,q31_,H',⟨Nat.le_refl _⟩,⟨q24_⟩⟩
 clear H'
 try clear c2
 try clear c2b0
 try clear c2b1
 try clear p2
 obtain ⟨x3_1,x11_1,rfl,rfl,HA,HK1,HB⟩:=hrel
 cases gk with
 | zero => exact absurd HA.out (by simp [impl_ExprOk.l0])
 | succ k1 =>
  have H:=HA.out
  clear HA
  simp only [impl_ExprOk.l0] at H
  by_cases c3:x11_1 < (l0.length:Int)
  ·rw [if_pos c3] at H
   have c3b0:=decide_eq_true c3
   clear c3
   by_cases c4:0 ≤ x11_1
   rotate_left
   ·rw [if_neg c4] at H
    exact absurd H (by simp)
   rw [if_pos c4] at H
   have c4b0:=decide_eq_true c4
   clear c4
   by_cases c5:x11_1 < (l0.length:Int)
   rotate_left
   ·rw [if_neg c5] at H
    exact absurd H (by simp)
   rw [if_pos c5] at H
   have c5b0:=decide_eq_true c5
   clear c5
   replace H:=Option.bind_eq_some_iff.mp H
   obtain ⟨t214,A60,H⟩:=H
   have A6:=Aside0.mk A60
   clear A60
   by_cases c7:t214 = true
   ·subst c7
    rewrite [if_pos rfl] at H
    by_cases c8:((rd_T43 l0 x11_1).f0) ≤ 3
    ·rw [if_pos c8] at H
     have c8b0:=decide_eq_true c8
     clear c8
     have H':=Aside0.mk H
     clear H
     have p212:0 ≤ (x11_1:Int):=of_decide_eq_true q46_
     have q212:x11_1 < (l0.length:Int):=of_decide_eq_true q46_
     obtain ⟨ad212,e212,hx212_0,hx212_1,hx212_2⟩:=at_T43 HR0.out x11_1 p212 q212
     cases e212
     replace hx212_0:=(HB.out.cell (World.block_lt_of_cell? w _ hx212_0)).trans hx212_0
     replace hx212_1:=(HB.out.cell (World.block_lt_of_cell? w _ hx212_1)).trans hx212_1
     replace hx212_2:=(HB.out.cell (World.block_lt_of_cell? w _ hx212_2)).trans hx212_2
     replace p212:=eq_true p212
     replace q212:=eq_true q212
     go_wp2_with (first | ((with_reducible refine gate_dst (N:=5) rfl ?_);refine box_event ?hg (N:=5) ?hd (cs:=#[.int .i64 0,.int .i64 0,.string (⟨#[]⟩:ByteArray)]) (t:=43) ?hr ?_;(case hd => rfl);(case hg => rfl);(case hr => exact q59_);intro gb213 hg w9 hbox hb;have n0_:=Aside0.mk (below_step q24_ hb);have n1_:=Aside0.mk (hbox);have n2_:=Aside0.mk ((q11_:w.heap.size ≤ gb213));have n3_:=Aside0.mk ((q11_:w.heap.size ≤ gb213));clear HB;have HB:=n0_;have BK213:=n1_;have GW213:=n2_;have GE213:=n3_;clear n0_ n1_ n2_ n3_;clear hb hbox hg;have hcz10_0:w9.cell? ⟨gb213,0,none⟩ = some (.int .i64 0):=(blk_cell BK213.out 0).trans rfl;have hcz10_1:w9.cell? ⟨gb213,1,none⟩ = some (.int .i64 0):=(blk_cell BK213.out 1).trans rfl;have hcz10_2:w9.cell? ⟨gb213,2,none⟩ = some (.string (⟨#[]⟩:ByteArray)):=(blk_cell BK213.out 2).trans rfl;have hfz10_0:=blk_frozen BK213.out 0;have hfz10_1:=blk_frozen BK213.out 1;have hfz10_2:=blk_frozen BK213.out 2) | ((with_reducible refine gate_callee (f:=23) rfl ?_);refine goesL_ (some 16) rfl rfl Tryz.func23 (by kernel_rfl) rfl #[.agg #[.int .i64 ((rd_T43 l0 x11_1).f0),.int .i64 ((rd_T43 l0 x11_1).f1),.string ((rd_T43 l0 x11_1).f2)]] rfl q22_ ?_;(with_reducible refine (impl_isNode.calls k1 ((rd_T43 l0 x11_1).f0) ((rd_T43 l0 x11_1).f1) ((rd_T43 l0 x11_1).f2) true _ A6.out).mono ?_);rintro e w11 ⟨rfl,hb⟩;refine ⟨_,rfl,?_⟩;have n0_:=Aside0.mk (blk_below (g:=gb213) (o:=.cells #[.int .i64 ((rd_T43 l0 x11_1).f0),.int .i64 ((rd_T43 l0 x11_1).f1),.string ((rd_T43 l0 x11_1).f2)] 43 (0,0)) q0_ hb);have n1_:=Aside0.mk (below_step q13_ hb);clear BK213;clear HB;have BK213:=n0_;have HB:=n1_;clear n0_ n1_;(try clear hb);have hcz12_0:w11.cell? ⟨gb213,0,none⟩ = some (.int .i64 ((rd_T43 l0 x11_1).f0)):=(blk_cell BK213.out 0).trans rfl;have hcz12_1:w11.cell? ⟨gb213,1,none⟩ = some (.int .i64 ((rd_T43 l0 x11_1).f1)):=(blk_cell BK213.out 1).trans rfl;have hcz12_2:w11.cell? ⟨gb213,2,none⟩ = some (.string ((rd_T43 l0 x11_1).f2)):=(blk_cell BK213.out 2).trans rfl;have hfz12_0:=blk_frozen BK213.out 0;have hfz12_1:=blk_frozen BK213.out 1;have hfz12_2:=blk_frozen BK213.out 2))
     go_roundg k1
     case measure => have:=HK1.out;omega
     case rel => exact ⟨(wrap64 (x3_1 + 1)),(wrap64 (x11_1 + 1)),q31_,q31_,H',⟨by have:=HK1.out;omega⟩,⟨q13_⟩⟩
    rw [if_neg c8] at H
    have c8b0:=decide_eq_false c8
    clear c8
    by_cases c13:((rd_T43 l0 x11_1).f0) ≤ 7
    ·rw [if_pos c13] at H
     have c13b0:=decide_eq_true c13
     clear c13
     by_cases c14:x3_1 < 1
     ·rw [if_pos c14] at H
      have c14b0:=decide_eq_true c14
      clear c14
      obtain rfl:=Option.some.inj H
      have p212:0 ≤ (x11_1:Int):=of_decide_eq_true q46_
      have q212:x11_1 < (l0.length:Int):=of_decide_eq_true q46_
      obtain ⟨ad212,e212,hx212_0,hx212_1,hx212_2⟩:=at_T43 HR0.out x11_1 p212 q212
      cases e212
      replace hx212_0:=(HB.out.cell (World.block_lt_of_cell? w _ hx212_0)).trans hx212_0
      replace hx212_1:=(HB.out.cell (World.block_lt_of_cell? w _ hx212_1)).trans hx212_1
      replace hx212_2:=(HB.out.cell (World.block_lt_of_cell? w _ hx212_2)).trans hx212_2
      replace p212:=eq_true p212
      replace q212:=eq_true q212
      go_wp2_with (first | ((with_reducible refine gate_dst (N:=5) rfl ?_);refine box_event ?hg (N:=5) ?hd (cs:=#[.int .i64 0,.int .i64 0,.string (⟨#[]⟩:ByteArray)]) (t:=43) ?hr ?_;(case hd => rfl);(case hg => rfl);(case hr => exact q59_);intro gb213 hg w15 hbox hb;have n0_:=Aside0.mk (below_step q24_ hb);have n1_:=Aside0.mk (hbox);have n2_:=Aside0.mk ((q11_:w.heap.size ≤ gb213));have n3_:=Aside0.mk ((q11_:w.heap.size ≤ gb213));clear HB;have HB:=n0_;have BK213:=n1_;have GW213:=n2_;have GE213:=n3_;clear n0_ n1_ n2_ n3_;clear hb hbox hg;have hcz16_0:w15.cell? ⟨gb213,0,none⟩ = some (.int .i64 0):=(blk_cell BK213.out 0).trans rfl;have hcz16_1:w15.cell? ⟨gb213,1,none⟩ = some (.int .i64 0):=(blk_cell BK213.out 1).trans rfl;have hcz16_2:w15.cell? ⟨gb213,2,none⟩ = some (.string (⟨#[]⟩:ByteArray)):=(blk_cell BK213.out 2).trans rfl;have hfz16_0:=blk_frozen BK213.out 0;have hfz16_1:=blk_frozen BK213.out 1;have hfz16_2:=blk_frozen BK213.out 2) | ((with_reducible refine gate_callee (f:=23) rfl ?_);refine goesL_ (some 16) rfl rfl Tryz.func23 (by kernel_rfl) rfl #[.agg #[.int .i64 ((rd_T43 l0 x11_1).f0),.int .i64 ((rd_T43 l0 x11_1).f1),.string ((rd_T43 l0 x11_1).f2)]] rfl q22_ ?_;(with_reducible refine (impl_isNode.calls k1 ((rd_T43 l0 x11_1).f0) ((rd_T43 l0 x11_1).f1) ((rd_T43 l0 x11_1).f2) true _ A6.out).mono ?_);rintro e w17 ⟨rfl,hb⟩;refine ⟨_,rfl,?_⟩;have n0_:=Aside0.mk (blk_below (g:=gb213) (o:=.cells #[.int .i64 ((rd_T43 l0 x11_1).f0),.int .i64 ((rd_T43 l0 x11_1).f1),.string ((rd_T43 l0 x11_1).f2)] 43 (0,0)) q0_ hb);have n1_:=Aside0.mk (below_step q13_ hb);clear BK213;clear HB;have BK213:=n0_;have HB:=n1_;clear n0_ n1_;(try clear hb);have hcz18_0:w17.cell? ⟨gb213,0,none⟩ = some (.int .i64 ((rd_T43 l0 x11_1).f0)):=(blk_cell BK213.out 0).trans rfl;have hcz18_1:w17.cell? ⟨gb213,1,none⟩ = some (.int .i64 ((rd_T43 l0 x11_1).f1)):=(blk_cell BK213.out 1).trans rfl;have hcz18_2:w17.cell? ⟨gb213,2,none⟩ = some (.string ((rd_T43 l0 x11_1).f2)):=(blk_cell BK213.out 2).trans rfl;have hfz18_0:=blk_frozen BK213.out 0;have hfz18_1:=blk_frozen BK213.out 1;have hfz18_2:=blk_frozen BK213.out 2))
      go_ret
      exact ⟨q26_,q13_⟩
     rw [if_neg c14] at H
     have c14b0:=decide_eq_false c14
     clear c14
     have H':=Aside0.mk H
     clear H
     have p212:0 ≤ (x11_1:Int):=of_decide_eq_true q46_
     have q212:x11_1 < (l0.length:Int):=of_decide_eq_true q46_
     obtain ⟨ad212,e212,hx212_0,hx212_1,hx212_2⟩:=at_T43 HR0.out x11_1 p212 q212
     cases e212
     replace hx212_0:=(HB.out.cell (World.block_lt_of_cell? w _ hx212_0)).trans hx212_0
     replace hx212_1:=(HB.out.cell (World.block_lt_of_cell? w _ hx212_1)).trans hx212_1
     replace hx212_2:=(HB.out.cell (World.block_lt_of_cell? w _ hx212_2)).trans hx212_2
     replace p212:=eq_true p212
     replace q212:=eq_true q212
     go_wp2_with (first | ((with_reducible refine gate_dst (N:=5) rfl ?_);refine box_event ?hg (N:=5) ?hd (cs:=#[.int .i64 0,.int .i64 0,.string (⟨#[]⟩:ByteArray)]) (t:=43) ?hr ?_;(case hd => rfl);(case hg => rfl);(case hr => exact q59_);intro gb213 hg w19 hbox hb;have n0_:=Aside0.mk (below_step q24_ hb);have n1_:=Aside0.mk (hbox);have n2_:=Aside0.mk ((q11_:w.heap.size ≤ gb213));have n3_:=Aside0.mk ((q11_:w.heap.size ≤ gb213));clear HB;have HB:=n0_;have BK213:=n1_;have GW213:=n2_;have GE213:=n3_;clear n0_ n1_ n2_ n3_;clear hb hbox hg;have hcz20_0:w19.cell? ⟨gb213,0,none⟩ = some (.int .i64 0):=(blk_cell BK213.out 0).trans rfl;have hcz20_1:w19.cell? ⟨gb213,1,none⟩ = some (.int .i64 0):=(blk_cell BK213.out 1).trans rfl;have hcz20_2:w19.cell? ⟨gb213,2,none⟩ = some (.string (⟨#[]⟩:ByteArray)):=(blk_cell BK213.out 2).trans rfl;have hfz20_0:=blk_frozen BK213.out 0;have hfz20_1:=blk_frozen BK213.out 1;have hfz20_2:=blk_frozen BK213.out 2) | ((with_reducible refine gate_callee (f:=23) rfl ?_);refine goesL_ (some 16) rfl rfl Tryz.func23 (by kernel_rfl) rfl #[.agg #[.int .i64 ((rd_T43 l0 x11_1).f0),.int .i64 ((rd_T43 l0 x11_1).f1),.string ((rd_T43 l0 x11_1).f2)]] rfl q22_ ?_;(with_reducible refine (impl_isNode.calls k1 ((rd_T43 l0 x11_1).f0) ((rd_T43 l0 x11_1).f1) ((rd_T43 l0 x11_1).f2) true _ A6.out).mono ?_);rintro e w21 ⟨rfl,hb⟩;refine ⟨_,rfl,?_⟩;have n0_:=Aside0.mk (blk_below (g:=gb213) (o:=.cells #[.int .i64 ((rd_T43 l0 x11_1).f0),.int .i64 ((rd_T43 l0 x11_1).f1),.string ((rd_T43 l0 x11_1).f2)] 43 (0,0)) q0_ hb);have n1_:=Aside0.mk (below_step q13_ hb);clear BK213;clear HB;have BK213:=n0_;have HB:=n1_;clear n0_ n1_;(try clear hb);have hcz22_0:w21.cell? ⟨gb213,0,none⟩ = some (.int .i64 ((rd_T43 l0 x11_1).f0)):=(blk_cell BK213.out 0).trans rfl;have hcz22_1:w21.cell? ⟨gb213,1,none⟩ = some (.int .i64 ((rd_T43 l0 x11_1).f1)):=(blk_cell BK213.out 1).trans rfl;have hcz22_2:w21.cell? ⟨gb213,2,none⟩ = some (.string ((rd_T43 l0 x11_1).f2)):=(blk_cell BK213.out 2).trans rfl;have hfz22_0:=blk_frozen BK213.out 0;have hfz22_1:=blk_frozen BK213.out 1;have hfz22_2:=blk_frozen BK213.out 2))
     go_roundg k1
     case measure => have:=HK1.out;omega
     case rel => exact ⟨(x3_1),(wrap64 (x11_1 + 1)),q31_,q31_,H',⟨by have:=HK1.out;omega⟩,⟨q13_⟩⟩
    rw [if_neg c13] at H
    have c13b0:=decide_eq_false c13
    clear c13
    by_cases c23:x3_1 < 2
    ·rw [if_pos c23] at H
     have c23b0:=decide_eq_true c23
     clear c23
     obtain rfl:=Option.some.inj H
     have p212:0 ≤ (x11_1:Int):=of_decide_eq_true q46_
     have q212:x11_1 < (l0.length:Int):=of_decide_eq_true q46_
     obtain ⟨ad212,e212,hx212_0,hx212_1,hx212_2⟩:=at_T43 HR0.out x11_1 p212 q212
     cases e212
     replace hx212_0:=(HB.out.cell (World.block_lt_of_cell? w _ hx212_0)).trans hx212_0
     replace hx212_1:=(HB.out.cell (World.block_lt_of_cell? w _ hx212_1)).trans hx212_1
     replace hx212_2:=(HB.out.cell (World.block_lt_of_cell? w _ hx212_2)).trans hx212_2
     replace p212:=eq_true p212
     replace q212:=eq_true q212
     go_wp2_with (first | ((with_reducible refine gate_dst (N:=5) rfl ?_);refine box_event ?hg (N:=5) ?hd (cs:=#[.int .i64 0,.int .i64 0,.string (⟨#[]⟩:ByteArray)]) (t:=43) ?hr ?_;(case hd => rfl);(case hg => rfl);(case hr => exact q59_);intro gb213 hg w24 hbox hb;have n0_:=Aside0.mk (below_step q24_ hb);have n1_:=Aside0.mk (hbox);have n2_:=Aside0.mk ((q11_:w.heap.size ≤ gb213));have n3_:=Aside0.mk ((q11_:w.heap.size ≤ gb213));clear HB;have HB:=n0_;have BK213:=n1_;have GW213:=n2_;have GE213:=n3_;clear n0_ n1_ n2_ n3_;clear hb hbox hg;have hcz25_0:w24.cell? ⟨gb213,0,none⟩ = some (.int .i64 0):=(blk_cell BK213.out 0).trans rfl;have hcz25_1:w24.cell? ⟨gb213,1,none⟩ = some (.int .i64 0):=(blk_cell BK213.out 1).trans rfl;have hcz25_2:w24.cell? ⟨gb213,2,none⟩ = some (.string (⟨#[]⟩:ByteArray)):=(blk_cell BK213.out 2).trans rfl;have hfz25_0:=blk_frozen BK213.out 0;have hfz25_1:=blk_frozen BK213.out 1;have hfz25_2:=blk_frozen BK213.out 2) | ((with_reducible refine gate_callee (f:=23) rfl ?_);refine goesL_ (some 16) rfl rfl Tryz.func23 (by kernel_rfl) rfl #[.agg #[.int .i64 ((rd_T43 l0 x11_1).f0),.int .i64 ((rd_T43 l0 x11_1).f1),.string ((rd_T43 l0 x11_1).f2)]] rfl q22_ ?_;(with_reducible refine (impl_isNode.calls k1 ((rd_T43 l0 x11_1).f0) ((rd_T43 l0 x11_1).f1) ((rd_T43 l0 x11_1).f2) true _ A6.out).mono ?_);rintro e w26 ⟨rfl,hb⟩;refine ⟨_,rfl,?_⟩;have n0_:=Aside0.mk (blk_below (g:=gb213) (o:=.cells #[.int .i64 ((rd_T43 l0 x11_1).f0),.int .i64 ((rd_T43 l0 x11_1).f1),.string ((rd_T43 l0 x11_1).f2)] 43 (0,0)) q0_ hb);have n1_:=Aside0.mk (below_step q13_ hb);clear BK213;clear HB;have BK213:=n0_;have HB:=n1_;clear n0_ n1_;(try clear hb);have hcz27_0:w26.cell? ⟨gb213,0,none⟩ = some (.int .i64 ((rd_T43 l0 x11_1).f0)):=(blk_cell BK213.out 0).trans rfl;have hcz27_1:w26.cell? ⟨gb213,1,none⟩ = some (.int .i64 ((rd_T43 l0 x11_1).f1)):=(blk_cell BK213.out 1).trans rfl;have hcz27_2:w26.cell? ⟨gb213,2,none⟩ = some (.string ((rd_T43 l0 x11_1).f2)):=(blk_cell BK213.out 2).trans rfl;have hfz27_0:=blk_frozen BK213.out 0;have hfz27_1:=blk_frozen BK213.out 1;have hfz27_2:=blk_frozen BK213.out 2))
     go_ret
     exact ⟨q26_,q13_⟩
    rw [if_neg c23] at H
    have c23b0:=decide_eq_false c23
    clear c23
    have H':=Aside0.mk H
    clear H
    have p212:0 ≤ (x11_1:Int):=of_decide_eq_true q46_
    have q212:x11_1 < (l0.length:Int):=of_decide_eq_true q46_
    obtain ⟨ad212,e212,hx212_0,hx212_1,hx212_2⟩:=at_T43 HR0.out x11_1 p212 q212
    cases e212
    replace hx212_0:=(HB.out.cell (World.block_lt_of_cell? w _ hx212_0)).trans hx212_0
    replace hx212_1:=(HB.out.cell (World.block_lt_of_cell? w _ hx212_1)).trans hx212_1
    replace hx212_2:=(HB.out.cell (World.block_lt_of_cell? w _ hx212_2)).trans hx212_2
    replace p212:=eq_true p212
    replace q212:=eq_true q212
    go_wp2_with (first | ((with_reducible refine gate_dst (N:=5) rfl ?_);refine box_event ?hg (N:=5) ?hd (cs:=#[.int .i64 0,.int .i64 0,.string (⟨#[]⟩:ByteArray)]) (t:=43) ?hr ?_;(case hd => rfl);(case hg => rfl);(case hr => exact q59_);intro gb213 hg w28 hbox hb;have n0_:=Aside0.mk (below_step q24_ hb);have n1_:=Aside0.mk (hbox);have n2_:=Aside0.mk ((q11_:w.heap.size ≤ gb213));have n3_:=Aside0.mk ((q11_:w.heap.size ≤ gb213));clear HB;have HB:=n0_;have BK213:=n1_;have GW213:=n2_;have GE213:=n3_;clear n0_ n1_ n2_ n3_;clear hb hbox hg;have hcz29_0:w28.cell? ⟨gb213,0,none⟩ = some (.int .i64 0):=(blk_cell BK213.out 0).trans rfl;have hcz29_1:w28.cell? ⟨gb213,1,none⟩ = some (.int .i64 0):=(blk_cell BK213.out 1).trans rfl;have hcz29_2:w28.cell? ⟨gb213,2,none⟩ = some (.string (⟨#[]⟩:ByteArray)):=(blk_cell BK213.out 2).trans rfl;have hfz29_0:=blk_frozen BK213.out 0;have hfz29_1:=blk_frozen BK213.out 1;have hfz29_2:=blk_frozen BK213.out 2) | ((with_reducible refine gate_callee (f:=23) rfl ?_);refine goesL_ (some 16) rfl rfl Tryz.func23 (by kernel_rfl) rfl #[.agg #[.int .i64 ((rd_T43 l0 x11_1).f0),.int .i64 ((rd_T43 l0 x11_1).f1),.string ((rd_T43 l0 x11_1).f2)]] rfl q22_ ?_;(with_reducible refine (impl_isNode.calls k1 ((rd_T43 l0 x11_1).f0) ((rd_T43 l0 x11_1).f1) ((rd_T43 l0 x11_1).f2) true _ A6.out).mono ?_);rintro e w30 ⟨rfl,hb⟩;refine ⟨_,rfl,?_⟩;have n0_:=Aside0.mk (blk_below (g:=gb213) (o:=.cells #[.int .i64 ((rd_T43 l0 x11_1).f0),.int .i64 ((rd_T43 l0 x11_1).f1),.string ((rd_T43 l0 x11_1).f2)] 43 (0,0)) q0_ hb);have n1_:=Aside0.mk (below_step q13_ hb);clear BK213;clear HB;have BK213:=n0_;have HB:=n1_;clear n0_ n1_;(try clear hb);have hcz31_0:w30.cell? ⟨gb213,0,none⟩ = some (.int .i64 ((rd_T43 l0 x11_1).f0)):=(blk_cell BK213.out 0).trans rfl;have hcz31_1:w30.cell? ⟨gb213,1,none⟩ = some (.int .i64 ((rd_T43 l0 x11_1).f1)):=(blk_cell BK213.out 1).trans rfl;have hcz31_2:w30.cell? ⟨gb213,2,none⟩ = some (.string ((rd_T43 l0 x11_1).f2)):=(blk_cell BK213.out 2).trans rfl;have hfz31_0:=blk_frozen BK213.out 0;have hfz31_1:=blk_frozen BK213.out 1;have hfz31_2:=blk_frozen BK213.out 2))
    go_roundg k1
    case measure => have:=HK1.out;omega
    case rel => exact ⟨(wrap64 (x3_1 - 1)),(wrap64 (x11_1 + 1)),q31_,q31_,H',⟨by have:=HK1.out;omega⟩,⟨q13_⟩⟩
   replace c7:=Bool.eq_false_iff.mpr c7
   subst c7
   rewrite [if_neg (show ¬ (false = true) by decide)] at H
   obtain rfl:=Option.some.inj H
   have p212:0 ≤ (x11_1:Int):=of_decide_eq_true q46_
   have q212:x11_1 < (l0.length:Int):=of_decide_eq_true q46_
   obtain ⟨ad212,e212,hx212_0,hx212_1,hx212_2⟩:=at_T43 HR0.out x11_1 p212 q212
   cases e212
   replace hx212_0:=(HB.out.cell (World.block_lt_of_cell? w _ hx212_0)).trans hx212_0
   replace hx212_1:=(HB.out.cell (World.block_lt_of_cell? w _ hx212_1)).trans hx212_1
   replace hx212_2:=(HB.out.cell (World.block_lt_of_cell? w _ hx212_2)).trans hx212_2
   replace p212:=eq_true p212
   replace q212:=eq_true q212
   go_wp2_with (first | ((with_reducible refine gate_dst (N:=5) rfl ?_);refine box_event ?hg (N:=5) ?hd (cs:=#[.int .i64 0,.int .i64 0,.string (⟨#[]⟩:ByteArray)]) (t:=43) ?hr ?_;(case hd => rfl);(case hg => rfl);(case hr => exact q59_);intro gb213 hg w32 hbox hb;have n0_:=Aside0.mk (below_step q24_ hb);have n1_:=Aside0.mk (hbox);have n2_:=Aside0.mk ((q11_:w.heap.size ≤ gb213));have n3_:=Aside0.mk ((q11_:w.heap.size ≤ gb213));clear HB;have HB:=n0_;have BK213:=n1_;have GW213:=n2_;have GE213:=n3_;clear n0_ n1_ n2_ n3_;clear hb hbox hg;have hcz33_0:w32.cell? ⟨gb213,0,none⟩ = some (.int .i64 0):=(blk_cell BK213.out 0).trans rfl;have hcz33_1:w32.cell? ⟨gb213,1,none⟩ = some (.int .i64 0):=(blk_cell BK213.out 1).trans rfl;have hcz33_2:w32.cell? ⟨gb213,2,none⟩ = some (.string (⟨#[]⟩:ByteArray)):=(blk_cell BK213.out 2).trans rfl;have hfz33_0:=blk_frozen BK213.out 0;have hfz33_1:=blk_frozen BK213.out 1;have hfz33_2:=blk_frozen BK213.out 2) | ((with_reducible refine gate_callee (f:=23) rfl ?_);refine goesL_ (some 16) rfl rfl Tryz.func23 (by kernel_rfl) rfl #[.agg #[.int .i64 ((rd_T43 l0 x11_1).f0),.int .i64 ((rd_T43 l0 x11_1).f1),.string ((rd_T43 l0 x11_1).f2)]] rfl q22_ ?_;(with_reducible refine (impl_isNode.calls k1 ((rd_T43 l0 x11_1).f0) ((rd_T43 l0 x11_1).f1) ((rd_T43 l0 x11_1).f2) false _ A6.out).mono ?_);rintro e w34 ⟨rfl,hb⟩;refine ⟨_,rfl,?_⟩;have n0_:=Aside0.mk (blk_below (g:=gb213) (o:=.cells #[.int .i64 ((rd_T43 l0 x11_1).f0),.int .i64 ((rd_T43 l0 x11_1).f1),.string ((rd_T43 l0 x11_1).f2)] 43 (0,0)) q0_ hb);have n1_:=Aside0.mk (below_step q13_ hb);clear BK213;clear HB;have BK213:=n0_;have HB:=n1_;clear n0_ n1_;(try clear hb)))
   go_ret
   exact ⟨q26_,q13_⟩
  rw [if_neg c3] at H
  have c3b0:=decide_eq_false c3
  clear c3
  obtain rfl:=Option.some.inj H
  go_wp2
  go_ret
  exact ⟨q26_,q24_⟩
def impl_opWords.f :Option (List ByteArray):=(strings_Split.f (⟨#[110,101,103,32,110,111,116,32,104,105,103,104,32,108,111,119,32,43,32,45,32,42,32,47,32,37,32,38,32,94,32,124,32,60,60,32,62,62]⟩:ByteArray) (⟨#[32]⟩:ByteArray)).bind fun t215 => (some t215)
theorem impl_opWords.calls  (r:List ByteArray) (w:World) (h:impl_opWords.f  = some r) (hG:Go.Proofs.YtabbdfchibjndaaGreatDoor.LibW.GL w:=by first | exact hG | exact hG.below q4_ | exact hG.drewN _) :
  Calls Tryz.prog 20 #[] w fun e w' => ∃ v0_:Value,e = .returned (v0_) ∧ Kd.R Kd.string 9 w' w.heap.size (fun _ => True) v0_ r ∧ Below w.heap.size w w':=by
 have HB:=Aside0.mk (Below.refl w.heap.size w)
 have H:=h;unfold impl_opWords.f at H
 clear h
 replace H:=Option.bind_eq_some_iff.mp H
 obtain ⟨t215,A10,H⟩:=H
 have A1:=Aside0.mk A10
 clear A10
 obtain rfl:=Option.some.inj H
 go_enter Tryz.func20,Tryz.ntmps20
 go_wp2_with (first | ((with_reducible refine gate_callee (f:=16) rfl ?_);refine goesL_ (some 1) rfl rfl Tryz.func16 (by kernel_rfl) rfl #[.string (⟨#[110,101,103,32,110,111,116,32,104,105,103,104,32,108,111,119,32,43,32,45,32,42,32,47,32,37,32,38,32,94,32,124,32,60,60,32,62,62]⟩:ByteArray),.string (⟨#[32]⟩:ByteArray)] rfl q22_ ?_;(with_reducible refine (strings_Split.calls (⟨#[110,101,103,32,110,111,116,32,104,105,103,104,32,108,111,119,32,43,32,45,32,42,32,47,32,37,32,38,32,94,32,124,32,60,60,32,62,62]⟩:ByteArray) (⟨#[32]⟩:ByteArray) t215 _ A1.out).mono ?_);rintro e w2 ⟨v216,rfl,ho0,hb⟩;refine ⟨_,rfl,?_⟩;have n0_:=Aside0.mk (Kd.R_lower ho0 (below_size q24_));have n1_:=Aside0.mk (below_step q24_ hb);clear HB;have HO217:=n0_;have HB:=n1_;clear n0_ n1_;(try clear hb);(try clear ho0)))
 go_ret
 exact ⟨_,q26_,by (with_reducible repeat (first | apply Kd.R_alloc | apply Kd.R_drewN | apply Kd.R_drew));exact HO217.out,q24_⟩
def impl_decimal.f (a0:Int):Option (ByteArray):=(strconv_FormatInt.f a0 10).bind fun t218 => (some t218)
theorem impl_decimal.calls (a0:Int) (r:ByteArray) (w:World) (h:impl_decimal.f a0 = some r) (hG:Go.Proofs.YtabbdfchibjndaaGreatDoor.LibW.GL w:=by first | exact hG | exact hG.below q4_ | exact hG.drewN _) :
  Calls Tryz.prog 31 #[.int .i64 a0] w fun e w' => e = .returned (.string r) ∧ Below w.heap.size w w':=by
 have HB:=Aside0.mk (Below.refl w.heap.size w)
 have H:=h;unfold impl_decimal.f at H
 clear h
 replace H:=Option.bind_eq_some_iff.mp H
 obtain ⟨t218,A20,H⟩:=H
 have A2:=Aside0.mk A20
 clear A20
 obtain rfl:=Option.some.inj H
 go_enter Tryz.func31,Tryz.ntmps31
 go_wp2_with (first | ((with_reducible refine gate_callee (f:=48) rfl ?_);refine goesL_ (some 4) rfl rfl Tryz.func48 (by kernel_rfl) rfl #[.int .i64 a0,.int .i64 10] rfl q22_ ?_;(with_reducible refine (strconv_FormatInt.calls a0 10 t218 _ A2.out).mono ?_);rintro e w3 ⟨rfl,hb⟩;refine ⟨_,rfl,?_⟩;replace HB:=Aside0.mk (below_step q24_ hb);(try clear hb)))
 go_ret
 exact ⟨q26_,q24_⟩
def impl_exprText.l0:Nat → List ByteArray → List (S43) → Int → Int → Option (ByteArray)
 | 0,_,_,_,_ => none
 | k + 1,x3,x7,x8,x9 => if x9 < x8 then (if 0 ≤ x9 then (if x9 < (x7.length:Int) then (if ((rd_T43 x7 x9).f0) = 1 then ((impl_decimal.f ((rd_T43 x7 x9).f1)).bind fun t225 => (if x3.length < 8796093022208 then (impl_exprText.l0 k (x3 ++ [t225]) x7 x8 (wrap64 (x9 + 1))) else (none))) else (if ((rd_T43 x7 x9).f0) = 2 then (if x3.length < 8796093022208 then (impl_exprText.l0 k (x3 ++ [(rd_T43 x7 x9).f2]) x7 x8 (wrap64 (x9 + 1))) else (none)) else (if ((rd_T43 x7 x9).f0) = 3 then (if 1 + ((rd_T43 x7 x9).f2).size ≤ 9223372036854775807 then (if x3.length < 8796093022208 then (impl_exprText.l0 k (x3 ++ [(⟨#[35]⟩:ByteArray) ++ ((rd_T43 x7 x9).f2)]) x7 x8 (wrap64 (x9 + 1))) else (none)) else (none)) else ((impl_opWords.f).bind fun t235 => (if 0 ≤ (wrap64 (((rd_T43 x7 x9).f0) - 4)) then (if (wrap64 (((rd_T43 x7 x9).f0) - 4)) < (t235.length:Int) then (if x3.length < 8796093022208 then (impl_exprText.l0 k (x3 ++ [rdOf ByteArray.empty t235 (wrap64 (((rd_T43 x7 x9).f0) - 4))]) x7 x8 (wrap64 (x9 + 1))) else (none)) else (none)) else (none)))))) else (none)) else (none)) else ((strings_Join.f x3 (⟨#[32]⟩:ByteArray)).bind fun t222 => (some t222))
def impl_exprText.f (k:Nat) (l0:List (S43)):Option (ByteArray):=impl_exprText.l0 k (([]:List ByteArray)) l0 (l0.length:Int) 0
theorem impl_exprText.mono_l:∀ k,(∀ y0 y1 y2 y3,LeO (impl_exprText.l0 k y0 y1 y2 y3) (impl_exprText.l0 (k + 1) y0 y1 y2 y3))
 | 0 => fun _ _ _ _ r h => by simp [impl_exprText.l0] at h
 | k + 1 => by
  have ih0:=impl_exprText.mono_l k
  intro y0 y1 y2 y3
  unfold impl_exprText.l0
  repeat' first
  | (with_reducible first | exact ih0 _ _ _ _ | exact LeO.refl _ | exact LeO.none _ | refine LeO.ite ?_ ?_ | refine LeO.bind ?_ (fun _ => ?_))
  | exact ih0 _ _ _ _
  | exact LeO.none _
  | refine LeO.ite ?_ ?_
  | refine LeO.bind ?_ (fun _ => ?_)
theorem impl_exprText.mono:∀ a0 k,LeO (impl_exprText.f k a0) (impl_exprText.f (k + 1) a0):=by
 intro a0 k
 have ih0:=impl_exprText.mono_l k
 unfold impl_exprText.f
 repeat' first
   | (with_reducible first | exact ih0 _ _ _ _ | exact LeO.refl _ | exact LeO.none _ | refine LeO.ite ?_ ?_ | refine LeO.bind ?_ (fun _ => ?_))
   | exact ih0 _ _ _ _
   | exact LeO.none _
   | refine LeO.ite ?_ ?_
   | refine LeO.bind ?_ (fun _ => ?_)
def impl_exprText.T6:Bool × List (List Nat × List Nat):=(true,[([],[]),([],[]),([],[]),([2],[2]),([3],[3]),([1,4],[1,4]),([5],[5]),([6],[6]),([0,7,1],[0,7]),([8,8,0,1,2,3,4,5,6,7,8],[0,8])])
def impl_exprText.B6:List Nat:=[0,0,0,4,12,30,62,126,255,511]
theorem impl_exprText.tab6:rtab .any (opsOf Tryz.f15 6) = impl_exprText.T6:=by kernel_rfl
theorem impl_exprText.bits6:waitsOk impl_exprText.T6.2 impl_exprText.B6 = true:=by kernel_rfl
theorem impl_exprText.calls (k:Nat) (A0:Option Addr) (c0:Nat) (l0:List (S43)) (r:ByteArray) (w:World) (hr0:Kd.C k43 w A0 l0.length l0) (hc0:l0.length ≤ c0) (h:impl_exprText.f k l0 = some r) (hG:Go.Proofs.YtabbdfchibjndaaGreatDoor.LibW.GL w:=by first | exact hG | exact hG.below q4_ | exact hG.drewN _) :
  Calls Tryz.prog 15 #[.slice A0 l0.length c0] w fun e w' => e = .returned (.string r) ∧ Below w.heap.size w w':=by
 have hu43:=Tryz.underlying43
 have HR0:=Aside0.mk hr0
 have HC0:=Aside0.mk hc0
 clear hr0 hc0
 have HB:=Aside0.mk (Below.refl w.heap.size w)
 have H:=h;unfold impl_exprText.f at H
 clear h
 obtain ⟨y219,hy219⟩:∃ y_:List ByteArray,y_ = (([]:List ByteArray)):=⟨_,rfl⟩
 replace H:(impl_exprText.l0 k y219 l0 (l0.length:Int) 0) = some r:=by first | (rw [hy219];exact H) | exact H
 have Ny219:=Aside0.mk hy219
 clear hy219
 have H':=Aside0.mk H
 clear H
 go_enter Tryz.func15,Tryz.ntmps15
 go_wp2_with (first | ((with_reducible refine gate_dst (N:=6) rfl ?_);refine Kd.R_lit Kd.string _ 9 ?hg (N:=6) ?hd (xs:=([]:List ByteArray)) (inner:=[]) (ok:=fun _ => True) (okp:=fun _ => True) ?hr ?hp (fun _ hk => hk) trivial (Below.refl _ _) (Nat.le_refl _) (by simp) ?_;(case hd => rfl);(case hg => rfl);(case hr => exact q59_);(case hp => exact (Reps.none _ _));intro v220 w2 ho3 hb hg_ hnew_;clear hg_ hnew_;(first | rw [← Ny219.out] at ho3 | (simp only [Int.reduceToNat] at ho3;rw [← Ny219.out] at ho3));have n0_:=Aside0.mk (Kd.R_lower ho3 (below_size q24_));have n1_:=Aside0.mk (below_step q24_ hb);clear HB;have HO221:=n0_;have HB:=n1_;clear n0_ n1_;clear hb ho3))
 go_loopg [3,9] k (fun kq v3 v9 w' => ∃ (x3_1:List ByteArray) (x9_1:Int),v9 = .int .i64 x9_1 ∧ Aside0 (impl_exprText.l0 kq x3_1 l0 (l0.length:Int) x9_1 = some r) ∧ Aside0 (kq ≤ k) ∧ Aside0 (Kd.R Kd.string 9 w' w.heap.size (fun _ => True) v3 x3_1) ∧ Aside0 (Below w.heap.size w w'))
 case atStart => exact ⟨(y219),(0),q31_,H',⟨Nat.le_refl _⟩,⟨by (with_reducible repeat (first | apply Kd.R_alloc | apply Kd.R_drewN | apply Kd.R_drew));exact HO221.out⟩,⟨q24_⟩⟩
 clear H'
 try clear c1
 try clear p2
 obtain ⟨x3_1,x9_1,rfl,HA,HK1,HO_3,HB⟩:=hrel
 cases gk with
 | zero => exact absurd HA.out (by simp [impl_exprText.l0])
 | succ k1 =>
  have H:=HA.out
  clear HA
  simp only [impl_exprText.l0] at H
  by_cases c4:x9_1 < (l0.length:Int)
  ·rw [if_pos c4] at H
   have c4b0:=decide_eq_true c4
   clear c4
   by_cases c5:0 ≤ x9_1
   rotate_left
   ·rw [if_neg c5] at H
    exact absurd H (by simp)
   rw [if_pos c5] at H
   have c5b0:=decide_eq_true c5
   clear c5
   by_cases c6:x9_1 < (l0.length:Int)
   rotate_left
   ·rw [if_neg c6] at H
    exact absurd H (by simp)
   rw [if_pos c6] at H
   have c6b0:=decide_eq_true c6
   clear c6
   by_cases c7:((rd_T43 l0 x9_1).f0) = 1
   ·rw [if_pos c7] at H
    have c7b0:(((rd_T43 l0 x9_1).f0) == 1) = true:=beq_iff_eq.mpr c7
    have c7b1:(((rd_T43 l0 x9_1).f0) != 1) = false:=bne_eq_false_iff_eq.mpr c7
    clear c7
    replace H:=Option.bind_eq_some_iff.mp H
    obtain ⟨t225,A80,H⟩:=H
    have A8:=Aside0.mk A80
    clear A80
    by_cases c9:x3_1.length < 8796093022208
    rotate_left
    ·rw [if_neg c9] at H
     exact absurd H (by simp)
    rw [if_pos c9] at H
    have LMc9:=Aside0.mk c9
    clear c9
    obtain ⟨y226,hy226⟩:∃ y_:List ByteArray,y_ = (x3_1 ++ [t225]):=⟨_,rfl⟩
    replace H:(impl_exprText.l0 k1 y226 l0 (l0.length:Int) (wrap64 (x9_1 + 1))) = some r:=by first | (rw [hy226];exact H) | exact H
    have Ny226:=Aside0.mk hy226
    clear hy226
    have H':=Aside0.mk H
    clear H
    have p223:0 ≤ (x9_1:Int):=of_decide_eq_true q46_
    have q223:x9_1 < (l0.length:Int):=of_decide_eq_true q46_
    obtain ⟨ad223,e223,hx223_0,hx223_1,hx223_2⟩:=at_T43 HR0.out x9_1 p223 q223
    cases e223
    replace hx223_0:=(HB.out.cell (World.block_lt_of_cell? w _ hx223_0)).trans hx223_0
    replace hx223_1:=(HB.out.cell (World.block_lt_of_cell? w _ hx223_1)).trans hx223_1
    replace hx223_2:=(HB.out.cell (World.block_lt_of_cell? w _ hx223_2)).trans hx223_2
    replace p223:=eq_true p223
    replace q223:=eq_true q223
    go_wp2_with (first | ((with_reducible refine gate_dst (N:=5) rfl ?_);refine box_event ?hg (N:=5) ?hd (cs:=#[.int .i64 0,.int .i64 0,.string (⟨#[]⟩:ByteArray)]) (t:=43) ?hr ?_;(case hd => rfl);(case hg => rfl);(case hr => exact q59_);intro gb224 hg w10 hbox hb;have n0_:=Aside0.mk (Kd.R_below q40_ hb);have n1_:=Aside0.mk (below_step q24_ hb);have n2_:=Aside0.mk (hbox);have n3_:=Aside0.mk ((q11_:w.heap.size ≤ gb224));have n4_:=Aside0.mk ((q11_:w.heap.size ≤ gb224));clear HO_3;clear HB;have HO_3:=n0_;have HB:=n1_;have BK224:=n2_;have GW224:=n3_;have GE224:=n4_;clear n0_ n1_ n2_ n3_ n4_;clear hb hbox hg;have hcz11_0:w10.cell? ⟨gb224,0,none⟩ = some (.int .i64 0):=(blk_cell BK224.out 0).trans rfl;have hcz11_1:w10.cell? ⟨gb224,1,none⟩ = some (.int .i64 0):=(blk_cell BK224.out 1).trans rfl;have hcz11_2:w10.cell? ⟨gb224,2,none⟩ = some (.string (⟨#[]⟩:ByteArray)):=(blk_cell BK224.out 2).trans rfl;have hfz11_0:=blk_frozen BK224.out 0;have hfz11_1:=blk_frozen BK224.out 1;have hfz11_2:=blk_frozen BK224.out 2) | ((with_reducible refine gate_callee (f:=31) rfl ?_);refine goesL_ (some 29) rfl rfl Tryz.func31 (by kernel_rfl) rfl #[.int .i64 ((rd_T43 l0 x9_1).f1)] rfl q22_ ?_;(with_reducible refine (impl_decimal.calls ((rd_T43 l0 x9_1).f1) t225 _ A8.out).mono ?_);rintro e w12 ⟨rfl,hb⟩;refine ⟨_,rfl,?_⟩;have n0_:=Aside0.mk (Kd.R_below (by (with_reducible repeat (first | apply Kd.R_alloc | apply Kd.R_drewN | apply Kd.R_drew));exact (Kd.R_mono (Kd.R_far (p:=⟨gb224,2,none⟩) (Kd.R_far (p:=⟨gb224,1,none⟩) (Kd.R_far (p:=⟨gb224,0,none⟩) (Kd.R_types HO_3.out BK224.out (by decide)) (fun _ hk => hk.2) (.int .i64 ((rd_T43 l0 x9_1).f0))) (fun _ hk => hk.2) (.int .i64 ((rd_T43 l0 x9_1).f1))) (fun _ hk => hk.2) (.string ((rd_T43 l0 x9_1).f2))) (fun _ h_ => h_.1))) hb);have n1_:=Aside0.mk (blk_below (g:=gb224) (o:=.cells #[.int .i64 ((rd_T43 l0 x9_1).f0),.int .i64 ((rd_T43 l0 x9_1).f1),.string ((rd_T43 l0 x9_1).f2)] 43 (0,0)) q1_ hb);have n2_:=Aside0.mk (below_step q14_ hb);clear HO_3;clear BK224;clear HB;have HO_3:=n0_;have BK224:=n1_;have HB:=n2_;clear n0_ n1_ n2_;(try clear hb)) | ((with_reducible refine gate_builtin (b:=.append) (xs:=#[.tmp 26,.tmp 30]) rfl ?_);at_builtin;refine Kd.R_append Kd.string (w0:=w) w.heap.size rfl (.tmp 26) (.tmp 30) 32 9 (.string ⟨#[]⟩) 16 rfl Tryz.underlying32 info9 rfl (by decide) (by omega) u3 x3_1 t225 [.string t225] (fun _ => True) (fun _ => False) rfl rfl ?aP (fun _ hk => hk.elim) ?aF ?aO ?aB ?aS ?aL ?_;(case aP => exact rfl);(case aB => exact q14_);(case aF => exact (fun _ _ => trivial));(case aO => exact q40_);(case aS => exact (below_size q14_));(case aL => have:=LMc9.out;omega);intro v227 w13 ho hb hg hat;rw [← Ny226.out] at ho;have n0_:=Aside0.mk (blk_grown (g:=gb224) (o:=.cells #[.int .i64 ((rd_T43 l0 x9_1).f0),.int .i64 ((rd_T43 l0 x9_1).f1),.string ((rd_T43 l0 x9_1).f2)] 43 (0,0)) q28_ hg (Kd.R_ne HO_3.out BK224.out (by decide)));have n1_:=Aside0.mk (hb);have n2_:=Aside0.mk (ho);clear BK224;clear HB;clear HO_3;have BK224:=n0_;have HB:=n1_;have HO228:=n2_;clear n0_ n1_ n2_;clear ho hb hg hat))
    go_roundg k1
    case measure => have:=HK1.out;omega
    case rel => exact ⟨(y226),(wrap64 (x9_1 + 1)),q31_,H',⟨by have:=HK1.out;omega⟩,⟨by (with_reducible repeat (first | apply Kd.R_alloc | apply Kd.R_drewN | apply Kd.R_drew));exact HO228.out⟩,⟨q14_⟩⟩
   rw [if_neg c7] at H
   have c7b0:(((rd_T43 l0 x9_1).f0) == 1) = false:=beq_eq_false_iff_ne.mpr c7
   have c7b1:(((rd_T43 l0 x9_1).f0) != 1) = true:=bne_iff_ne.mpr c7
   by_cases c14:((rd_T43 l0 x9_1).f0) = 2
   ·rw [if_pos c14] at H
    have c14b0:(((rd_T43 l0 x9_1).f0) == 2) = true:=beq_iff_eq.mpr c14
    have c14b1:(((rd_T43 l0 x9_1).f0) != 2) = false:=bne_eq_false_iff_eq.mpr c14
    clear c14
    by_cases c15:x3_1.length < 8796093022208
    rotate_left
    ·rw [if_neg c15] at H
     exact absurd H (by simp)
    rw [if_pos c15] at H
    have LMc15:=Aside0.mk c15
    clear c15
    obtain ⟨y229,hy229⟩:∃ y_:List ByteArray,y_ = (x3_1 ++ [(rd_T43 l0 x9_1).f2]):=⟨_,rfl⟩
    replace H:(impl_exprText.l0 k1 y229 l0 (l0.length:Int) (wrap64 (x9_1 + 1))) = some r:=by first | (rw [hy229];exact H) | exact H
    have Ny229:=Aside0.mk hy229
    clear hy229
    have H':=Aside0.mk H
    clear H
    have p223:0 ≤ (x9_1:Int):=of_decide_eq_true q46_
    have q223:x9_1 < (l0.length:Int):=of_decide_eq_true q46_
    obtain ⟨ad223,e223,hx223_0,hx223_1,hx223_2⟩:=at_T43 HR0.out x9_1 p223 q223
    cases e223
    replace hx223_0:=(HB.out.cell (World.block_lt_of_cell? w _ hx223_0)).trans hx223_0
    replace hx223_1:=(HB.out.cell (World.block_lt_of_cell? w _ hx223_1)).trans hx223_1
    replace hx223_2:=(HB.out.cell (World.block_lt_of_cell? w _ hx223_2)).trans hx223_2
    replace p223:=eq_true p223
    replace q223:=eq_true q223
    go_wp2_with (first | ((with_reducible refine gate_dst (N:=5) rfl ?_);refine box_event ?hg (N:=5) ?hd (cs:=#[.int .i64 0,.int .i64 0,.string (⟨#[]⟩:ByteArray)]) (t:=43) ?hr ?_;(case hd => rfl);(case hg => rfl);(case hr => exact q59_);intro gb224 hg w16 hbox hb;have n0_:=Aside0.mk (Kd.R_below q40_ hb);have n1_:=Aside0.mk (below_step q24_ hb);have n2_:=Aside0.mk (hbox);have n3_:=Aside0.mk ((q11_:w.heap.size ≤ gb224));have n4_:=Aside0.mk ((q11_:w.heap.size ≤ gb224));clear HO_3;clear HB;have HO_3:=n0_;have HB:=n1_;have BK224:=n2_;have GW224:=n3_;have GE224:=n4_;clear n0_ n1_ n2_ n3_ n4_;clear hb hbox hg;have hcz17_0:w16.cell? ⟨gb224,0,none⟩ = some (.int .i64 0):=(blk_cell BK224.out 0).trans rfl;have hcz17_1:w16.cell? ⟨gb224,1,none⟩ = some (.int .i64 0):=(blk_cell BK224.out 1).trans rfl;have hcz17_2:w16.cell? ⟨gb224,2,none⟩ = some (.string (⟨#[]⟩:ByteArray)):=(blk_cell BK224.out 2).trans rfl;have hfz17_0:=blk_frozen BK224.out 0;have hfz17_1:=blk_frozen BK224.out 1;have hfz17_2:=blk_frozen BK224.out 2) | ((with_reducible refine gate_builtin (b:=.append) (xs:=#[.tmp 34,.tmp 37]) rfl ?_);at_builtin;refine Kd.R_append Kd.string (w0:=w) w.heap.size rfl (.tmp 34) (.tmp 37) 32 9 (.string ⟨#[]⟩) 16 rfl Tryz.underlying32 info9 rfl (by decide) (by omega) u3 x3_1 ((rd_T43 l0 x9_1).f2) [.string ((rd_T43 l0 x9_1).f2)] (fun _ => True) (fun _ => False) rfl (by first | (go_simp;done) | (go_simp;rfl)) ?aP (fun _ hk => hk.elim) ?aF ?aO ?aB ?aS ?aL ?_;(case aP => exact rfl);(case aB => exact q14_);(case aF => exact (fun _ _ => trivial));(case aO => exact q3_);(case aS => exact (below_size q14_));(case aL => have:=LMc15.out;omega);intro v230 w18 ho hb hg hat;rw [← Ny229.out] at ho;have n0_:=Aside0.mk (blk_grown (g:=gb224) (o:=.cells #[.int .i64 ((rd_T43 l0 x9_1).f0),.int .i64 ((rd_T43 l0 x9_1).f1),.string ((rd_T43 l0 x9_1).f2)] 43 (0,0)) q1_ hg (Kd.R_ne HO_3.out BK224.out (by decide)));have n1_:=Aside0.mk (hb);have n2_:=Aside0.mk (ho);clear BK224;clear HB;clear HO_3;have BK224:=n0_;have HB:=n1_;have HO231:=n2_;clear n0_ n1_ n2_;clear ho hb hg hat))
    go_roundg k1
    case measure => have:=HK1.out;omega
    case rel => exact ⟨(y229),(wrap64 (x9_1 + 1)),q31_,H',⟨by have:=HK1.out;omega⟩,⟨by (with_reducible repeat (first | apply Kd.R_alloc | apply Kd.R_drewN | apply Kd.R_drew));exact HO231.out⟩,⟨q14_⟩⟩
   rw [if_neg c14] at H
   have c14b0:(((rd_T43 l0 x9_1).f0) == 2) = false:=beq_eq_false_iff_ne.mpr c14
   have c14b1:(((rd_T43 l0 x9_1).f0) != 2) = true:=bne_iff_ne.mpr c14
   by_cases c19:((rd_T43 l0 x9_1).f0) = 3
   ·rw [if_pos c19] at H
    have c19b0:(((rd_T43 l0 x9_1).f0) == 3) = true:=beq_iff_eq.mpr c19
    have c19b1:(((rd_T43 l0 x9_1).f0) != 3) = false:=bne_eq_false_iff_eq.mpr c19
    clear c19
    by_cases c20:1 + ((rd_T43 l0 x9_1).f2).size ≤ 9223372036854775807
    rotate_left
    ·rw [if_neg c20] at H
     exact absurd H (by simp)
    rw [if_pos c20] at H
    have c20b0:=eq_true c20
    have c20b1:=decide_eq_true c20
    try have c20b2:(9223372036854775807 < 1 + ((rd_T43 l0 x9_1).f2).size) = False:=eq_false (Nat.not_lt.2 c20)
    by_cases c21:x3_1.length < 8796093022208
    rotate_left
    ·rw [if_neg c21] at H
     exact absurd H (by simp)
    rw [if_pos c21] at H
    have LMc21:=Aside0.mk c21
    clear c21
    obtain ⟨y232,hy232⟩:∃ y_:List ByteArray,y_ = (x3_1 ++ [(⟨#[35]⟩:ByteArray) ++ ((rd_T43 l0 x9_1).f2)]):=⟨_,rfl⟩
    replace H:(impl_exprText.l0 k1 y232 l0 (l0.length:Int) (wrap64 (x9_1 + 1))) = some r:=by first | (rw [hy232];exact H) | exact H
    have Ny232:=Aside0.mk hy232
    clear hy232
    have H':=Aside0.mk H
    clear H
    have p223:0 ≤ (x9_1:Int):=of_decide_eq_true q46_
    have q223:x9_1 < (l0.length:Int):=of_decide_eq_true q46_
    obtain ⟨ad223,e223,hx223_0,hx223_1,hx223_2⟩:=at_T43 HR0.out x9_1 p223 q223
    cases e223
    replace hx223_0:=(HB.out.cell (World.block_lt_of_cell? w _ hx223_0)).trans hx223_0
    replace hx223_1:=(HB.out.cell (World.block_lt_of_cell? w _ hx223_1)).trans hx223_1
    replace hx223_2:=(HB.out.cell (World.block_lt_of_cell? w _ hx223_2)).trans hx223_2
    replace p223:=eq_true p223
    replace q223:=eq_true q223
    go_wp2_with (first | ((with_reducible refine gate_dst (N:=5) rfl ?_);refine box_event ?hg (N:=5) ?hd (cs:=#[.int .i64 0,.int .i64 0,.string (⟨#[]⟩:ByteArray)]) (t:=43) ?hr ?_;(case hd => rfl);(case hg => rfl);(case hr => exact q59_);intro gb224 hg w22 hbox hb;have n0_:=Aside0.mk (Kd.R_below q40_ hb);have n1_:=Aside0.mk (below_step q24_ hb);have n2_:=Aside0.mk (hbox);have n3_:=Aside0.mk ((q11_:w.heap.size ≤ gb224));have n4_:=Aside0.mk ((q11_:w.heap.size ≤ gb224));clear HO_3;clear HB;have HO_3:=n0_;have HB:=n1_;have BK224:=n2_;have GW224:=n3_;have GE224:=n4_;clear n0_ n1_ n2_ n3_ n4_;clear hb hbox hg;have hcz23_0:w22.cell? ⟨gb224,0,none⟩ = some (.int .i64 0):=(blk_cell BK224.out 0).trans rfl;have hcz23_1:w22.cell? ⟨gb224,1,none⟩ = some (.int .i64 0):=(blk_cell BK224.out 1).trans rfl;have hcz23_2:w22.cell? ⟨gb224,2,none⟩ = some (.string (⟨#[]⟩:ByteArray)):=(blk_cell BK224.out 2).trans rfl;have hfz23_0:=blk_frozen BK224.out 0;have hfz23_1:=blk_frozen BK224.out 1;have hfz23_2:=blk_frozen BK224.out 2) | ((with_reducible refine gate_builtin (b:=.append) (xs:=#[.tmp 41,.tmp 45]) rfl ?_);at_builtin;refine Kd.R_append Kd.string (w0:=w) w.heap.size rfl (.tmp 41) (.tmp 45) 32 9 (.string ⟨#[]⟩) 16 rfl Tryz.underlying32 info9 rfl (by decide) (by omega) u3 x3_1 ((⟨#[35]⟩:ByteArray) ++ ((rd_T43 l0 x9_1).f2)) [.string ((⟨#[35]⟩:ByteArray) ++ ((rd_T43 l0 x9_1).f2))] (fun _ => True) (fun _ => False) rfl (by first | (go_simp;done) | (go_simp;rfl)) ?aP (fun _ hk => hk.elim) ?aF ?aO ?aB ?aS ?aL ?_;(case aP => exact rfl);(case aB => exact q14_);(case aF => exact (fun _ _ => trivial));(case aO => exact q3_);(case aS => exact (below_size q14_));(case aL => have:=LMc21.out;omega);intro v233 w24 ho hb hg hat;rw [← Ny232.out] at ho;have n0_:=Aside0.mk (blk_grown (g:=gb224) (o:=.cells #[.int .i64 ((rd_T43 l0 x9_1).f0),.int .i64 ((rd_T43 l0 x9_1).f1),.string ((rd_T43 l0 x9_1).f2)] 43 (0,0)) q1_ hg (Kd.R_ne HO_3.out BK224.out (by decide)));have n1_:=Aside0.mk (hb);have n2_:=Aside0.mk (ho);clear BK224;clear HB;clear HO_3;have BK224:=n0_;have HB:=n1_;have HO234:=n2_;clear n0_ n1_ n2_;clear ho hb hg hat))
    go_roundg k1
    case measure => have:=HK1.out;omega
    case rel => exact ⟨(y232),(wrap64 (x9_1 + 1)),q31_,H',⟨by have:=HK1.out;omega⟩,⟨by (with_reducible repeat (first | apply Kd.R_alloc | apply Kd.R_drewN | apply Kd.R_drew));exact HO234.out⟩,⟨q14_⟩⟩
   rw [if_neg c19] at H
   have c19b0:(((rd_T43 l0 x9_1).f0) == 3) = false:=beq_eq_false_iff_ne.mpr c19
   have c19b1:(((rd_T43 l0 x9_1).f0) != 3) = true:=bne_iff_ne.mpr c19
   replace H:=Option.bind_eq_some_iff.mp H
   obtain ⟨t235,A250,H⟩:=H
   have A25:=Aside0.mk A250
   clear A250
   obtain ⟨ji26,hji26⟩:∃ j_:Int,(wrap64 (((rd_T43 l0 x9_1).f0) - 4)) = j_:=⟨_,rfl⟩
   (first | rewrite [hji26] at H | simp only [hji26] at H)
   (try rw [hji26] at A25)
   have hji26w:(IntKind.i64.wrap (((rd_T43 l0 x9_1).f0) - 4)) = ji26:=(i64_w _).trans hji26
   by_cases c27:0 ≤ (ji26)
   rotate_left
   ·rw [if_neg c27] at H
    exact absurd H (by simp)
   rw [if_pos c27] at H
   have c27b0:=decide_eq_true c27
   clear c27
   by_cases c28:(ji26) < (t235.length:Int)
   rotate_left
   ·rw [if_neg c28] at H
    exact absurd H (by simp)
   rw [if_pos c28] at H
   have c28b0:=decide_eq_true c28
   clear c28
   by_cases c29:x3_1.length < 8796093022208
   rotate_left
   ·rw [if_neg c29] at H
    exact absurd H (by simp)
   rw [if_pos c29] at H
   have LMc29:=Aside0.mk c29
   clear c29
   obtain ⟨y239,hy239⟩:∃ y_:List ByteArray,y_ = (x3_1 ++ [rdOf ByteArray.empty t235 (ji26)]):=⟨_,rfl⟩
   replace H:(impl_exprText.l0 k1 y239 l0 (l0.length:Int) (wrap64 (x9_1 + 1))) = some r:=by first | (rw [hy239];exact H) | exact H
   have Ny239:=Aside0.mk hy239
   clear hy239
   have H':=Aside0.mk H
   clear H
   have p223:0 ≤ (x9_1:Int):=of_decide_eq_true q46_
   have q223:x9_1 < (l0.length:Int):=of_decide_eq_true q46_
   obtain ⟨ad223,e223,hx223_0,hx223_1,hx223_2⟩:=at_T43 HR0.out x9_1 p223 q223
   cases e223
   replace hx223_0:=(HB.out.cell (World.block_lt_of_cell? w _ hx223_0)).trans hx223_0
   replace hx223_1:=(HB.out.cell (World.block_lt_of_cell? w _ hx223_1)).trans hx223_1
   replace hx223_2:=(HB.out.cell (World.block_lt_of_cell? w _ hx223_2)).trans hx223_2
   replace p223:=eq_true p223
   replace q223:=eq_true q223
   try go_wp2_with (first | ((with_reducible refine gate_dst (N:=5) rfl ?_);refine box_event ?hg (N:=5) ?hd (cs:=#[.int .i64 0,.int .i64 0,.string (⟨#[]⟩:ByteArray)]) (t:=43) ?hr ?_;(case hd => rfl);(case hg => rfl);(case hr => exact q59_);intro gb224 hg w30 hbox hb;have n0_:=Aside0.mk (Kd.R_below q40_ hb);have n1_:=Aside0.mk (below_step q24_ hb);have n2_:=Aside0.mk (hbox);have n3_:=Aside0.mk ((q11_:w.heap.size ≤ gb224));have n4_:=Aside0.mk ((q11_:w.heap.size ≤ gb224));clear HO_3;clear HB;have HO_3:=n0_;have HB:=n1_;have BK224:=n2_;have GW224:=n3_;have GE224:=n4_;clear n0_ n1_ n2_ n3_ n4_;clear hb hbox hg;have hcz31_0:w30.cell? ⟨gb224,0,none⟩ = some (.int .i64 0):=(blk_cell BK224.out 0).trans rfl;have hcz31_1:w30.cell? ⟨gb224,1,none⟩ = some (.int .i64 0):=(blk_cell BK224.out 1).trans rfl;have hcz31_2:w30.cell? ⟨gb224,2,none⟩ = some (.string (⟨#[]⟩:ByteArray)):=(blk_cell BK224.out 2).trans rfl;have hfz31_0:=blk_frozen BK224.out 0;have hfz31_1:=blk_frozen BK224.out 1;have hfz31_2:=blk_frozen BK224.out 2))
   have n0_:Aside0 (Kd.R Kd.string 9 (((w30.setCell ⟨gb224,0,none⟩ (.int .i64 ((rd_T43 l0 x9_1).f0))).setCell ⟨gb224,1,none⟩ (.int .i64 ((rd_T43 l0 x9_1).f1))).setCell ⟨gb224,2,none⟩ (.string ((rd_T43 l0 x9_1).f2))) w.heap.size (fun _ => True) u3 x3_1):=⟨q3_⟩
   have n1_:Aside0 ((((w30.setCell ⟨gb224,0,none⟩ (.int .i64 ((rd_T43 l0 x9_1).f0))).setCell ⟨gb224,1,none⟩ (.int .i64 ((rd_T43 l0 x9_1).f1))).setCell ⟨gb224,2,none⟩ (.string ((rd_T43 l0 x9_1).f2))).heap[gb224]? = some (.cells #[.int .i64 ((rd_T43 l0 x9_1).f0),.int .i64 ((rd_T43 l0 x9_1).f1),.string ((rd_T43 l0 x9_1).f2)] 43 (0,0))):=⟨q1_⟩
   have n2_:Aside0 (Below w.heap.size w (((w30.setCell ⟨gb224,0,none⟩ (.int .i64 ((rd_T43 l0 x9_1).f0))).setCell ⟨gb224,1,none⟩ (.int .i64 ((rd_T43 l0 x9_1).f1))).setCell ⟨gb224,2,none⟩ (.string ((rd_T43 l0 x9_1).f2)))):=⟨q14_⟩
   (try clear HO_3)
   (try clear BK224)
   (try clear HB)
   generalize (((w30.setCell ⟨gb224,0,none⟩ (.int .i64 ((rd_T43 l0 x9_1).f0))).setCell ⟨gb224,1,none⟩ (.int .i64 ((rd_T43 l0 x9_1).f1))).setCell ⟨gb224,2,none⟩ (.string ((rd_T43 l0 x9_1).f2))) = w32 at n0_ n1_ n2_ ⊢
   have HO_3:=n0_
   have BK224:=n1_
   have HB:=n2_
   clear n0_ n1_ n2_
   have n0_:=Aside0.mk (Kd.R_drew HO_3.out)
   have n1_:=Aside0.mk (blk_drew BK224.out)
   have n2_:=Aside0.mk (below_drew1 HB.out)
   clear HO_3
   clear BK224
   clear HB
   have HO_3:=n0_
   have BK224:=n1_
   have HB:=n2_
   clear n0_ n1_ n2_
   refine start_ (n:=10) (S:=fun w' => w'.cell? ⟨gb224,0,none⟩ = some (.int .i64 ((rd_T43 l0 x9_1).f0)) ∧ w'.cell? ⟨gb224,1,none⟩ = some (.int .i64 ((rd_T43 l0 x9_1).f1)) ∧ w'.cell? ⟨gb224,2,none⟩ = some (.string ((rd_T43 l0 x9_1).f2))) (ds:=[6,7,8]) #[false,false,false,false,false,false,false,false,false,false] (by kernel_rfl) rfl rfl ⟨(blk_cell BK224.out 0).trans rfl,(blk_cell BK224.out 1).trans rfl,(blk_cell BK224.out 2).trans rfl⟩ (fun hHeld => ?_);refine with_tabW impl_exprText.tab6 impl_exprText.bits6 (fun HT_ HW_ => ?_)
   generalize w32.drew = w33 at HO_3 BK224 HB hHeld ⊢
   refine pure_ (i:=0) (N:=some 15) (v:=?_) (a':=?_) #[true,false,false,false,false,false,false,false,false,false] rfl rfl (any_of HT_.out (by kernel_rfl)) (fun _ _ _ h => h) (Or.inl ⟨by rfl,?_⟩) ?_ ?_
   rotate_left
   ·intro w'
    go_simp
    with_reducible rfl
   rotate_left
   ·simp only [Act.put,List.setIfInBounds_toArray,List.set_cons_zero,List.set_cons_succ,i64_w,i32_w]
    rfl
   refine pure_ (i:=2) (N:=some 17) (v:=?_) (a':=?_) #[true,false,true,false,false,false,false,false,false,false] rfl rfl (any_of HT_.out (by kernel_rfl)) (fun _ _ _ h => h) (Or.inl ⟨by rfl,?_⟩) ?_ ?_
   rotate_left
   ·intro w'
    go_simp
    with_reducible rfl
   rotate_left
   ·simp only [Act.put,List.setIfInBounds_toArray,List.set_cons_zero,List.set_cons_succ,i64_w,i32_w]
    rfl
   refine take_ (i:=3) (N:=some 18) (v:=?_) (a':=?_) #[true,false,true,true,false,false,false,false,false,false] rfl rfl (take_ofW HT_.out HW_.out (by kernel_rfl)) (fun _ _ _ h => h) (Or.inl ⟨by rfl,?_⟩) hHeld ?_ ?_
   rotate_left
   ·rintro w' ⟨s0,s1,s2⟩
    go_simp
    with_reducible rfl
   rotate_left
   ·simp only [Act.put,List.setIfInBounds_toArray,List.set_cons_zero,List.set_cons_succ,i64_w,i32_w]
    rfl
   refine pure_ (i:=4) (N:=some 19) (v:=?_) (a':=?_) #[true,false,true,true,true,false,false,false,false,false] rfl rfl (any_of HT_.out (by kernel_rfl)) (fun _ _ _ h => h) (Or.inl ⟨by rfl,?_⟩) ?_ ?_
   rotate_left
   ·intro w'
    go_simp
    with_reducible rfl
   rotate_left
   ·simp only [Act.put,List.setIfInBounds_toArray,List.set_cons_zero,List.set_cons_succ,i64_w,i32_w]
    rfl
   refine one_ (i:=1) (N:=some 16) #[true,true,true,true,true,false,false,false,false,false] rfl rfl (one_of HT_.out (by kernel_rfl)) (by decide) (fun K hK => ?_)
   refine goes_ Tryz.func20 (by kernel_rfl) rfl #[] (by rfl) rfl rfl q22_ ?_
   with_reducible refine (impl_opWords.calls  t235 _ A25.out).mono ?_
   rintro e w34 ⟨v236,rfl,ho0,hb⟩
   skip
   refine ⟨_,rfl,?_⟩
   have n0_:=Aside0.mk (Kd.R_elder' q40_ (Kd.R_base ho0) hb)
   have n1_:=Aside0.mk (Kd.R_lower (Kd.R_new' ho0 (Kd.R_lt q40_)) (below_size q14_))
   have n2_:=Aside0.mk (blk_below (g:=gb224) (o:=.cells #[.int .i64 ((rd_T43 l0 x9_1).f0),.int .i64 ((rd_T43 l0 x9_1).f1),.string ((rd_T43 l0 x9_1).f2)] 43 (0,0)) q28_ hb)
   have n3_:=Aside0.mk (below_step q14_ hb)
   clear HO_3
   clear BK224
   clear HB
   have HO_3:=n0_
   have HO237:=n1_
   have BK224:=n2_
   have HB:=n3_
   clear n0_ n1_ n2_ n3_
   (try clear hb)
   (try clear hb2)
   (try clear hk)
   (try clear hi)
   (try clear ho0)
   obtain ⟨Ao35,co35,eo35⟩:=Kd.R_slice HO237.out
   (first | subst eo35 | (injection eo35 with f1_ f2_ f3_;have f4_:=f1_.symm;have f5_:=f3_.symm;clear f1_ f2_ f3_;subst f4_;subst f5_))
   have p238:0 ≤ ((ji26):Int):=of_decide_eq_true q46_
   have q238:(ji26) < (t235.length:Int):=of_decide_eq_true q46_
   obtain ⟨ad238,e238,hx238_0⟩:=Kd.at_string (Kd.R_reads' HO237.out).2.2 (ji26) p238 q238
   cases e238
   replace p238:=eq_true p238
   replace q238:=eq_true q238
   refine hK.out _ _ ⟨(blk_cell BK224.out 0).trans rfl,(blk_cell BK224.out 1).trans rfl,(blk_cell BK224.out 2).trans rfl⟩ (fun hHeld => ?_)
   clear hK K
   refine norm_ (a':=?_) ?_ ?_
   rotate_left
   ·show Act.put _ (some 16) _ = _
    simp only [Act.put,List.setIfInBounds_toArray,List.set_cons_zero,List.set_cons_succ,i64_w,i32_w]
    rfl
   refine pure_ (i:=5) (N:=some 20) (v:=?_) (a':=?_) #[true,true,true,true,true,true,false,false,false,false] rfl rfl (any_of HT_.out (by kernel_rfl)) (fun _ _ _ h => h) (Or.inl ⟨by rfl,?_⟩) ?_ ?_
   rotate_left
   ·intro w'
    go_simp
    with_reducible rfl
   rotate_left
   ·simp only [Act.put,List.setIfInBounds_toArray,List.set_cons_zero,List.set_cons_succ,i64_w,i32_w]
    rfl
   refine last_ (i:=6) (N:=some 21) #[true,true,true,true,true,true,true,false,false,false] rfl rfl (one_of HT_.out (by kernel_rfl)) (by decide) (fun K hK => ?_)
   refine value_ (w1:=?_) (v:=?_) (by rfl) rfl ?_ ?_
   rotate_left 2
   ·go_simp
    constructor
    ·rfl
    rfl
   refine hK.out _ _ ?_
   clear hK K
   refine norm_ (a':=?_) ?_ ?_
   rotate_left
   ·show Act.put _ (some 21) _ = _
    simp only [Act.put,List.setIfInBounds_toArray,List.set_cons_zero,List.set_cons_succ,i64_w,i32_w]
    rfl
   refine last_ (i:=7) (N:=some 22) #[true,true,true,true,true,true,true,true,false,false] rfl rfl (one_of HT_.out (by kernel_rfl)) (by decide) (fun K hK => ?_)
   refine value_ (w1:=?_) (v:=?_) (by rfl) rfl ?_ ?_
   rotate_left 2
   ·go_simp
    constructor
    ·rfl
    rfl
   refine hK.out _ _ ?_
   clear hK K
   refine norm_ (a':=?_) ?_ ?_
   rotate_left
   ·show Act.put _ (some 22) _ = _
    simp only [Act.put,List.setIfInBounds_toArray,List.set_cons_zero,List.set_cons_succ,i64_w,i32_w]
    rfl
   refine last_ (i:=8) (N:=some 23) #[true,true,true,true,true,true,true,true,true,false] rfl rfl (one_of HT_.out (by kernel_rfl)) (by decide) (fun K hK => ?_)
   refine Kd.R_append_step Kd.string (w0:=w) w.heap.size (by rfl) (.tmp 15) (.tmp 22) 32 9 (.string ⟨#[]⟩) 16 rfl Tryz.underlying32 info9 rfl (by decide) (by omega) u3 x3_1 (rdOf ByteArray.empty t235 (ji26)) [.string (rdOf ByteArray.empty t235 (ji26))] (fun k_ => some k_ ≠ (.slice (some ad238) t235.length co35:Value).ownBlock) (fun _ => False) rfl rfl ?aP (fun _ hk => hk.elim) ?aF ?aO ?aB ?aS ?aL ?_
   (case aP => exact rfl)
   (case aB => exact q14_)
   (case aF => exact (fun k_ hk => Kd.fresh' (Kd.R_lt (by (with_reducible repeat (first | apply Kd.R_alloc | apply Kd.R_drewN | apply Kd.R_drew));exact HO237.out)) k_ hk))
   (case aO => exact (by (with_reducible repeat (first | apply Kd.R_alloc | apply Kd.R_drewN | apply Kd.R_drew));exact Kd.R_mono HO_3.out (fun _ hk => hk.2)))
   (case aS => exact (below_size q14_))
   (case aL => have:=LMc29.out;omega)
   intro v240 w36 ho hb hg hat
   rw [← Ny239.out] at ho
   have n0_:=Aside0.mk (blk_grown (g:=gb224) (o:=.cells #[.int .i64 ((rd_T43 l0 x9_1).f0),.int .i64 ((rd_T43 l0 x9_1).f1),.string ((rd_T43 l0 x9_1).f2)] 43 (0,0)) q28_ hg (Kd.R_ne HO_3.out BK224.out (by decide)))
   have n1_:=Aside0.mk (Kd.R_after (ok:=(fun _ => True)) (by (with_reducible repeat (first | apply Kd.R_alloc | apply Kd.R_drewN | apply Kd.R_drew));exact HO237.out) hg hat)
   have n2_:=Aside0.mk (hb)
   have n3_:=Aside0.mk (ho)
   clear BK224
   clear HO237
   clear HB
   clear HO_3
   have BK224:=n0_
   have HO237:=n1_
   have HB:=n2_
   have HO241:=n3_
   clear n0_ n1_ n2_ n3_
   clear ho hb hg hat
   refine hK.out _ _ ?_
   clear hK K
   refine norm_ (a':=?_) ?_ ?_
   rotate_left
   ·show Act.put _ (some 23) _ = _
    simp only [Act.put,List.setIfInBounds_toArray,List.set_cons_zero,List.set_cons_succ,i64_w,i32_w]
    rfl
   refine pure_ (i:=9) (N:=some 3) (v:=?_) (a':=?_) #[true,true,true,true,true,true,true,true,true,true] rfl rfl (any_of HT_.out (by kernel_rfl)) (fun _ _ _ h => h) (Or.inl ⟨by rfl,?_⟩) ?_ ?_
   rotate_left
   ·intro w'
    go_simp
    with_reducible rfl
   rotate_left
   ·simp only [Act.put,List.setIfInBounds_toArray,List.set_cons_zero,List.set_cons_succ,i64_w,i32_w]
    rfl
   refine done_ (done_of HT_.out (by kernel_rfl)) ?_
   try go_wp2
   go_roundg k1
   case measure => have:=HK1.out;omega
   case rel => exact ⟨(y239),(wrap64 (x9_1 + 1)),q31_,(by first | with_reducible exact H' | (have H2_:=H';simp only [← hji26] at H2_ ⊢;with_reducible exact H2_) | exact H'),⟨by have:=HK1.out;omega⟩,⟨by (with_reducible repeat (first | apply Kd.R_alloc | apply Kd.R_drewN | apply Kd.R_drew));exact Kd.R_mono HO241.out (fun _ hk => trivial)⟩,⟨q14_⟩⟩
  rw [if_neg c4] at H
  have c4b0:=decide_eq_false c4
  clear c4
  replace H:=Option.bind_eq_some_iff.mp H
  obtain ⟨t222,A370,H⟩:=H
  have A37:=Aside0.mk A370
  clear A370
  obtain rfl:=Option.some.inj H
  obtain ⟨Ao38,co38,eo38⟩:=Kd.R_slice HO_3.out
  subst eo38
  go_wp2_with (first | ((with_reducible refine gate_callee (f:=32) rfl ?_);refine goesL_ (some 49) rfl rfl Tryz.func32 (by kernel_rfl) rfl #[.slice Ao38 x3_1.length co38,.string (⟨#[32]⟩:ByteArray)] rfl q22_ ?_;(with_reducible refine (strings_Join.calls _ _ x3_1 (⟨#[32]⟩:ByteArray) t222 _ ?side1 ?side2 A37.out).mono ?_);(case side1 => repeat (first | exact (Kd.R_reads' HO_3.out).2.2 | (with_reducible refine Kd.C_alloc ?_ _) | (with_reducible refine Kd.C_drewN ?_ _) | (with_reducible refine Kd.C_drew ?_)));(case side2 => exact (Kd.R_reads' HO_3.out).2.1);rintro e w39 ⟨rfl,hb⟩;refine ⟨_,rfl,?_⟩;have n0_:=Aside0.mk (Kd.R_below q40_ hb);have n1_:=Aside0.mk (below_step q24_ hb);clear HO_3;clear HB;have HO_3:=n0_;have HB:=n1_;clear n0_ n1_;(try clear hb)))
  go_ret
  exact ⟨q26_,q24_⟩
def impl_ExprText.f (k:Nat) (l0:List (S43)):Option (ByteArray):=(impl_ExprOk.f k l0).bind fun t242 => (if t242 = true then ((impl_exprText.f k l0).bind fun t243 => (some t243)) else (some (⟨#[]⟩:ByteArray)))
theorem impl_ExprText.mono:∀ a0 k,LeO (impl_ExprText.f k a0) (impl_ExprText.f (k + 1) a0):=by
 intro a0 k
 unfold impl_ExprText.f
 repeat' first
   | (with_reducible first | exact impl_ExprOk.mono _ _ | exact impl_exprText.mono _ _ | exact LeO.refl _ | exact LeO.none _ | refine LeO.ite ?_ ?_ | refine LeO.bind ?_ (fun _ => ?_))
   | exact impl_ExprOk.mono _ _
   | exact impl_exprText.mono _ _
   | exact LeO.none _
   | refine LeO.ite ?_ ?_
   | refine LeO.bind ?_ (fun _ => ?_)
theorem impl_ExprText.calls (k:Nat) (A0:Option Addr) (c0:Nat) (l0:List (S43)) (r:ByteArray) (w:World) (hr0:Kd.C k43 w A0 l0.length l0) (hc0:l0.length ≤ c0) (h:impl_ExprText.f k l0 = some r) (hG:Go.Proofs.YtabbdfchibjndaaGreatDoor.LibW.GL w:=by first | exact hG | exact hG.below q4_ | exact hG.drewN _) :
  Calls Tryz.prog 6 #[.slice A0 l0.length c0] w fun e w' => e = .returned (.string r) ∧ Below w.heap.size w w':=by
 have HR0:=Aside0.mk hr0
 have HC0:=Aside0.mk hc0
 clear hr0 hc0
 have HB:=Aside0.mk (Below.refl w.heap.size w)
 have H:=h;unfold impl_ExprText.f at H
 clear h
 replace H:=Option.bind_eq_some_iff.mp H
 obtain ⟨t242,A20,H⟩:=H
 have A2:=Aside0.mk A20
 clear A20
 by_cases c3:t242 = true
 ·subst c3
  rewrite [if_pos rfl] at H
  replace H:=Option.bind_eq_some_iff.mp H
  obtain ⟨t243,A40,H⟩:=H
  have A4:=Aside0.mk A40
  clear A40
  obtain rfl:=Option.some.inj H
  go_enter Tryz.func6,Tryz.ntmps6
  go_wp2_with (first | ((with_reducible refine gate_callee (f:=9) rfl ?_);refine goesL_ (some 4) rfl rfl Tryz.func9 (by kernel_rfl) rfl #[.slice A0 l0.length c0] rfl q22_ ?_;(with_reducible refine (impl_ExprOk.calls k _ _ l0 true _ ?side1 ?side2 A2.out).mono ?_);(case side1 => exact q57_);(case side2 => exact HC0.out);rintro e w5 ⟨rfl,hb⟩;refine ⟨_,rfl,?_⟩;replace HB:=Aside0.mk (below_step q24_ hb);(try clear hb)) | ((with_reducible refine gate_callee (f:=15) rfl ?_);refine goesL_ (some 7) rfl rfl Tryz.func15 (by kernel_rfl) rfl #[.slice A0 l0.length c0] rfl q22_ ?_;(with_reducible refine (impl_exprText.calls k _ _ l0 t243 _ ?side1 ?side2 A4.out).mono ?_);(case side1 => exact q51_);(case side2 => exact HC0.out);rintro e w6 ⟨rfl,hb⟩;refine ⟨_,rfl,?_⟩;replace HB:=Aside0.mk (below_step q24_ hb);(try clear hb)))
  go_ret
  exact ⟨q26_,q24_⟩
 replace c3:=Bool.eq_false_iff.mpr c3
 subst c3
 rewrite [if_neg (show ¬ (false = true) by decide)] at H
 obtain rfl:=Option.some.inj H
 go_enter Tryz.func6,Tryz.ntmps6
 go_wp2_with (first | ((with_reducible refine gate_callee (f:=9) rfl ?_);refine goesL_ (some 4) rfl rfl Tryz.func9 (by kernel_rfl) rfl #[.slice A0 l0.length c0] rfl q22_ ?_;(with_reducible refine (impl_ExprOk.calls k _ _ l0 false _ ?side1 ?side2 A2.out).mono ?_);(case side1 => exact q57_);(case side2 => exact HC0.out);rintro e w7 ⟨rfl,hb⟩;refine ⟨_,rfl,?_⟩;replace HB:=Aside0.mk (below_step q24_ hb);(try clear hb)))
 go_ret
 exact ⟨q26_,q24_⟩
def stringslite_HasPrefix.f (a0:ByteArray) (a1:ByteArray):Option (Bool):=if (a0.size:Int) ≥ (a1.size:Int) then (if 0 ≤ (a1.size:Int) then (if (a1.size:Int) ≤ (a0.size:Int) then (some ((a0.extract 0 ((a1.size:Int):Int).toNat).toList == a1.toList)) else (none)) else (none)) else (some false)
theorem stringslite_HasPrefix.calls (a0:ByteArray) (a1:ByteArray) (r:Bool) (w:World) (h:stringslite_HasPrefix.f a0 a1 = some r) :
  Calls Tryz.prog 55 #[.string a0,.string a1] w fun e w' => e = .returned (.bool r) ∧ Drawn0 w w':=by
 have H:=h;unfold stringslite_HasPrefix.f at H
 clear h
 by_cases c3:(a0.size:Int) ≥ (a1.size:Int)
 ·rw [if_pos c3] at H
  have c3b0:decide ((a1.size:Int) ≤ (a0.size:Int)) = true:=decide_eq_true c3
  have c3b1:decide (a1.size ≤ a0.size) = true:=decide_eq_true (Int.ofNat_le.mp c3)
  clear c3
  by_cases c4:0 ≤ (a1.size:Int)
  rotate_left
  ·rw [if_neg c4] at H
   exact absurd H (by simp)
  rw [if_pos c4] at H
  have c4b0:=eq_true c4
  have c4b1:=decide_eq_true c4
  clear c4
  by_cases c5:(a1.size:Int) ≤ (a0.size:Int)
  rotate_left
  ·rw [if_neg c5] at H
   exact absurd H (by simp)
  rw [if_pos c5] at H
  have c5b0:=eq_true c5
  have c5b1:=decide_eq_true c5
  clear c5
  obtain rfl:=Option.some.inj H
  go_enter Tryz.func55,Tryz.ntmps55
  go_wp2
  go_ret
  exact ⟨q31_,q44_⟩
 rw [if_neg c3] at H
 have c3b0:decide ((a1.size:Int) ≤ (a0.size:Int)) = false:=decide_eq_false c3
 have c3b1:decide (a1.size ≤ a0.size) = false:=decide_eq_false (fun h => c3 (Int.ofNat_le.mpr h))
 clear c3
 obtain rfl:=Option.some.inj H
 go_enter Tryz.func55,Tryz.ntmps55
 go_wp2
 go_ret
 exact ⟨q31_,q44_⟩
def stringslite_CutPrefix.f (a0:ByteArray) (a1:ByteArray):Option (ByteArray × Bool):=(stringslite_HasPrefix.f a0 a1).bind fun t244 => (if t244 = true then (if 0 ≤ (a1.size:Int) then (if (a1.size:Int) ≤ (a0.size:Int) then (some (a0.extract ((a1.size:Int):Int).toNat a0.size,true)) else (none)) else (none)) else (some (a0,false)))
theorem stringslite_CutPrefix.calls (a0:ByteArray) (a1:ByteArray) (r1:ByteArray) (r2:Bool) (w:World) (h:stringslite_CutPrefix.f a0 a1 = some (r1,r2)) :
  Calls Tryz.prog 34 #[.string a0,.string a1] w fun e w' => e = .returned (.tuple #[.string r1,.bool r2]) ∧ Drawn0 w w':=by
 have H:=h;unfold stringslite_CutPrefix.f at H
 clear h
 replace H:=Option.bind_eq_some_iff.mp H
 obtain ⟨t244,A30,H⟩:=H
 have A3:=Aside0.mk A30
 clear A30
 by_cases c4:t244 = true
 ·subst c4
  rewrite [if_pos rfl] at H
  by_cases c5:0 ≤ (a1.size:Int)
  rotate_left
  ·rw [if_neg c5] at H
   exact absurd H (by simp)
  rw [if_pos c5] at H
  have c5b0:=eq_true c5
  have c5b1:=decide_eq_true c5
  clear c5
  by_cases c6:(a1.size:Int) ≤ (a0.size:Int)
  rotate_left
  ·rw [if_neg c6] at H
   exact absurd H (by simp)
  rw [if_pos c6] at H
  have c6b0:=eq_true c6
  have c6b1:=decide_eq_true c6
  clear c6
  simp only [Option.some.injEq,Prod.mk.injEq] at H
  obtain ⟨rfl,rfl⟩:=H
  go_enter Tryz.func34,Tryz.ntmps34
  go_wp2_with (first | ((with_reducible refine gate_callee (f:=55) rfl ?_);refine goesL_ (some 8) rfl rfl Tryz.func55 (by kernel_rfl) rfl #[.string a0,.string a1] rfl q22_ ?_;(with_reducible refine (stringslite_HasPrefix.calls a0 a1 true _ A3.out).mono ?_);rintro e w' ⟨rfl,⟨nd,rfl⟩⟩;refine ⟨_,rfl,?_⟩))
  go_ret2
  exact ⟨q31_,q44_⟩
 replace c4:=Bool.eq_false_iff.mpr c4
 subst c4
 rewrite [if_neg (show ¬ (false = true) by decide)] at H
 simp only [Option.some.injEq,Prod.mk.injEq] at H
 obtain ⟨rfl,rfl⟩:=H
 go_enter Tryz.func34,Tryz.ntmps34
 go_wp2_with (first | ((with_reducible refine gate_callee (f:=55) rfl ?_);refine goesL_ (some 8) rfl rfl Tryz.func55 (by kernel_rfl) rfl #[.string a0,.string a1] rfl q22_ ?_;(with_reducible refine (stringslite_HasPrefix.calls a0 a1 false _ A3.out).mono ?_);rintro e w' ⟨rfl,⟨nd,rfl⟩⟩;refine ⟨_,rfl,?_⟩))
 go_ret2
 exact ⟨q31_,q44_⟩
def strings_CutPrefix.f (a0:ByteArray) (a1:ByteArray):Option (ByteArray × Bool):=(stringslite_CutPrefix.f a0 a1).bind fun bt245 => (some (bt245.1,bt245.2))
theorem strings_CutPrefix.calls (a0:ByteArray) (a1:ByteArray) (r1:ByteArray) (r2:Bool) (w:World) (h:strings_CutPrefix.f a0 a1 = some (r1,r2)) :
  Calls Tryz.prog 17 #[.string a0,.string a1] w fun e w' => e = .returned (.tuple #[.string r1,.bool r2]) ∧ Drawn0 w w':=by
 have H:=h;unfold strings_CutPrefix.f at H
 clear h
 replace H:=Option.bind_eq_some_iff.mp H
 obtain ⟨⟨t245,t246⟩,A30,H⟩:=H
 try dsimp -simprocs -eta only at H
 have A3:=Aside0.mk A30
 clear A30
 simp only [Option.some.injEq,Prod.mk.injEq] at H
 obtain ⟨rfl,rfl⟩:=H
 go_enter Tryz.func17,Tryz.ntmps17
 go_wp2_with (first | ((with_reducible refine gate_callee (f:=34) rfl ?_);refine goesL_ (some 8) rfl rfl Tryz.func34 (by kernel_rfl) rfl #[.string a0,.string a1] rfl q22_ ?_;(with_reducible refine (stringslite_CutPrefix.calls a0 a1 t245 t246 _ A3.out).mono ?_);rintro e w' ⟨rfl,⟨nd,rfl⟩⟩;refine ⟨_,rfl,?_⟩))
 go_ret2
 exact ⟨q31_,q44_⟩
end Go.Proofs.YtabbdfchibjndaaGreatDoor.QFnExprTexts
