/- The machine's side of a law,written by a program of this session for this claim. -/
import Derived.Test.YtpghjbikjmnnoaaSFnEvalQq
import Derived.Test.YtpghjbikjmnnoaaSFnEvalQFnEvalx0
import Derived.Test.YtpghjbikjmnnoaaSFnEvalQFnEvalx4
namespace Go.Proofs.Ytpghjbikjmnnoaa.QFnEval
open Go.Proofs.Ytpghjbikjmnnoaa.Qq
open Go.RowKit Go.Proofs.Ytpghjbikjmnnoaa.LibX Go.Proofs.Ytpghjbikjmnnoaa.LibG Go.Proofs.Ytpghjbikjmnnoaa.LibCv Go.Proofs.Ytpghjbikjmnnoaa.LibNm Go.Proofs.Ytpghjbikjmnnoaa.LibIx Go.Proofs.YtpghjbikjmnnoaaW.PrintWords Go.Proofs.YtpghjbikjmnnoaaW.PrintLast Go.Proofs.YtpghjbikjmnnoaaW.PrintMore
attribute [local go_sem] max2_int min2_int max_two min_two max_three min_three max_four min_four   -- for this text's walks alone
set_option maxHeartbeats 8000000
set_option maxRecDepth 100000
set_option linter.unusedVariables false
set_option linter.unusedSimpArgs false
def impl_ExprOk.l0:Nat → Int → List (S45) → Int → Int → Option (Bool)
 | 0,_,_,_,_ => none
 | k + 1,x3,x9,x10,x11 => if x11 < x10 then (if 0 ≤ x11 then (if x11 < (x9.length:Int) then ((impl_isNode.f k ((rd_T45 x9 x11).f0) ((rd_T45 x9 x11).f1) ((rd_T45 x9 x11).f2)).bind fun t231 => (if t231 = true then (if ((rd_T45 x9 x11).f0) ≤ 3 then (impl_ExprOk.l0 k (wrap64 (x3 + 1)) x9 x10 (wrap64 (x11 + 1))) else (if ((rd_T45 x9 x11).f0) ≤ 7 then (if x3 < 1 then (some false) else (impl_ExprOk.l0 k x3 x9 x10 (wrap64 (x11 + 1)))) else (if x3 < 2 then (some false) else (impl_ExprOk.l0 k (wrap64 (x3 - 1)) x9 x10 (wrap64 (x11 + 1)))))) else (some false))) else (none)) else (none)) else (some (x3 == 1))
def impl_ExprOk.f (k:Nat) (l0:List (S45)):Option (Bool):=if (l0.length:Int) > 30 then (some false) else (impl_ExprOk.l0 k 0 l0 (l0.length:Int) 0)
theorem impl_ExprOk.mono_l:∀ k,(∀ y0 y1 y2 y3,LeO (impl_ExprOk.l0 k y0 y1 y2 y3) (impl_ExprOk.l0 (k + 1) y0 y1 y2 y3))
 | 0 => fun _ _ _ _ r h => by simp [impl_ExprOk.l0] at h
 | k + 1 => by
  have ih0:=impl_ExprOk.mono_l k
  intro y0 y1 y2 y3
  unfold impl_ExprOk.l0
  repeat' first
  | (with_reducible first | exact ih0 _ _ _ _ | exact impl_isNode.mono _ _ _ _ | exact LeO.refl _ | exact LeO.none _ | refine LeO.ite ?_ ?_ | refine LeO.bind ?_ (fun _ => ?_))
  | exact ih0 _ _ _ _
  | exact impl_isNode.mono _ _ _ _
  | exact LeO.none _
  | refine LeO.ite ?_ ?_
  | refine LeO.bind ?_ (fun _ => ?_)
theorem impl_ExprOk.mono:∀ a0 k,LeO (impl_ExprOk.f k a0) (impl_ExprOk.f (k + 1) a0):=by
 intro a0 k
 have ih0:=impl_ExprOk.mono_l k
 unfold impl_ExprOk.f
 repeat' first
   | (with_reducible first | exact ih0 _ _ _ _ | exact impl_isNode.mono _ _ _ _ | exact LeO.refl _ | exact LeO.none _ | refine LeO.ite ?_ ?_ | refine LeO.bind ?_ (fun _ => ?_))
   | exact ih0 _ _ _ _
   | exact impl_isNode.mono _ _ _ _
   | exact LeO.none _
   | refine LeO.ite ?_ ?_
   | refine LeO.bind ?_ (fun _ => ?_)
theorem impl_ExprOk.calls (k:Nat) (A0:Option Addr) (c0:Nat) (l0:List (S45)) (r:Bool) (w:World) (hr0:Kd.C k45 w A0 l0.length l0) (hc0:l0.length ≤ c0) (h:impl_ExprOk.f k l0 = some r) :
  Calls Try.prog 12 #[.slice A0 l0.length c0] w fun e w' => e = .returned (.bool r) ∧ Below w.heap.size w w':=by
 have hu45:=Try.underlying45
 have HR0:=Aside0.mk hr0
 have HC0:=Aside0.mk hc0
 clear hr0 hc0
 have HB:=Aside0.mk (Below.refl w.heap.size w)
 have H:=h;unfold impl_ExprOk.f at H
 clear h
 by_cases c2:(l0.length:Int) > 30
 ·rw [if_pos c2] at H
  have c2b0:decide (30 < (l0.length:Int)) = true:=decide_eq_true c2
  have c2b1:decide (30 < l0.length) = true:=decide_eq_true (by omega)
  clear c2
  obtain rfl:=Option.some.inj H
  go_enter Try.func12,Try.ntmps12
  go_wp2
  go_ret
  exact ⟨q21_,q20_⟩
 rw [if_neg c2] at H
 have c2b0:decide (30 < (l0.length:Int)) = false:=decide_eq_false c2
 have c2b1:decide (30 < l0.length) = false:=decide_eq_false (by omega)
 clear c2
 have H':=Aside0.mk H
 clear H
 go_enter Try.func12,Try.ntmps12
 go_wp2
 go_loopg [3,11] k (fun kq v3 v11 w' => ∃ (x3_1:Int) (x11_1:Int),v3 = .int .i64 x3_1 ∧ v11 = .int .i64 x11_1 ∧ Aside0 (impl_ExprOk.l0 kq x3_1 l0 (l0.length:Int) x11_1 = some r) ∧ Aside0 (kq ≤ k) ∧ Aside0 (Below w.heap.size w w'))
 case atStart => exact ⟨(0),(0),q25_,q25_,H',⟨Nat.le_refl _⟩,⟨q20_⟩⟩
 clear H'
 try clear c1
 try clear c2
 try clear c2b0
 try clear c2b1
 try clear p2
 obtain ⟨x3_1,x11_1,rfl,rfl,HA,HK1,HB⟩:=hrel
 cases gk with
 | zero => exact absurd HA.out (by simp [impl_ExprOk.l0])
 | succ k1 =>
  have H:=HA.out
  clear HA
  simp only [impl_ExprOk.l0] at H
  by_cases c3:x11_1 < (l0.length:Int)
  ·rw [if_pos c3] at H
   have c3b0:=decide_eq_true c3
   clear c3
   by_cases c4:0 ≤ x11_1
   rotate_left
   ·rw [if_neg c4] at H
    exact absurd H (by simp)
   rw [if_pos c4] at H
   have c4b0:=decide_eq_true c4
   clear c4
   by_cases c5:x11_1 < (l0.length:Int)
   rotate_left
   ·rw [if_neg c5] at H
    exact absurd H (by simp)
   rw [if_pos c5] at H
   have c5b0:=decide_eq_true c5
   clear c5
   replace H:=Option.bind_eq_some_iff.mp H
   obtain ⟨t231,A60,H⟩:=H
   have A6:=Aside0.mk A60
   clear A60
   by_cases c7:t231 = true
   ·subst c7
    rewrite [if_pos rfl] at H
    by_cases c8:((rd_T45 l0 x11_1).f0) ≤ 3
    ·rw [if_pos c8] at H
     have c8b0:=decide_eq_true c8
     clear c8
     have H':=Aside0.mk H
     clear H
     have p229:0 ≤ (x11_1:Int):=of_decide_eq_true q42_
     have q229:x11_1 < (l0.length:Int):=of_decide_eq_true q42_
     obtain ⟨ad229,e229,hx229_0,hx229_1,hx229_2⟩:=at_T45 HR0.out x11_1 p229 q229
     cases e229
     replace hx229_0:=(HB.out.cell (World.block_lt_of_cell? w _ hx229_0)).trans hx229_0
     replace hx229_1:=(HB.out.cell (World.block_lt_of_cell? w _ hx229_1)).trans hx229_1
     replace hx229_2:=(HB.out.cell (World.block_lt_of_cell? w _ hx229_2)).trans hx229_2
     replace p229:=eq_true p229
     replace q229:=eq_true q229
     go_wp2_with (first | ((with_reducible refine gate_dst (N:=5) rfl ?_);refine box_event ?hg (N:=5) ?hd (cs:=#[.int .i64 0,.int .i64 0,.string (⟨#[]⟩:ByteArray)]) (t:=45) ?hr ?_;(case hd => rfl);(case hg => rfl);(case hr => exact q62_);intro gb230 hg w9 hbox hb;have n0_:=Aside0.mk (below_step q20_ hb);have n1_:=Aside0.mk (hbox);have n2_:=Aside0.mk ((q10_:w.heap.size ≤ gb230));have n3_:=Aside0.mk ((q10_:w.heap.size ≤ gb230));clear HB;have HB:=n0_;have BK230:=n1_;have GW230:=n2_;have GE230:=n3_;clear n0_ n1_ n2_ n3_;clear hb hbox hg;have hcz10_0:w9.cell? ⟨gb230,0,none⟩ = some (.int .i64 0):=(blk_cell BK230.out 0).trans rfl;have hcz10_1:w9.cell? ⟨gb230,1,none⟩ = some (.int .i64 0):=(blk_cell BK230.out 1).trans rfl;have hcz10_2:w9.cell? ⟨gb230,2,none⟩ = some (.string (⟨#[]⟩:ByteArray)):=(blk_cell BK230.out 2).trans rfl;have hfz10_0:=blk_frozen BK230.out 0;have hfz10_1:=blk_frozen BK230.out 1;have hfz10_2:=blk_frozen BK230.out 2) | ((with_reducible refine gate_callee (f:=22) rfl ?_);refine goesL_ (some 16) rfl rfl Try.func22 (by kernel_rfl) rfl #[.agg #[.int .i64 ((rd_T45 l0 x11_1).f0),.int .i64 ((rd_T45 l0 x11_1).f1),.string ((rd_T45 l0 x11_1).f2)]] rfl q18_ ?_;(with_reducible refine (impl_isNode.calls k1 ((rd_T45 l0 x11_1).f0) ((rd_T45 l0 x11_1).f1) ((rd_T45 l0 x11_1).f2) true _ A6.out).mono ?_);rintro e w11 ⟨rfl,hb⟩;refine ⟨_,rfl,?_⟩;have n0_:=Aside0.mk (blk_below (g:=gb230) (o:=.cells #[.int .i64 ((rd_T45 l0 x11_1).f0),.int .i64 ((rd_T45 l0 x11_1).f1),.string ((rd_T45 l0 x11_1).f2)] 45 (0,0)) q0_ hb);have n1_:=Aside0.mk (below_step q12_ hb);clear BK230;clear HB;have BK230:=n0_;have HB:=n1_;clear n0_ n1_;(try clear hb);have hcz12_0:w11.cell? ⟨gb230,0,none⟩ = some (.int .i64 ((rd_T45 l0 x11_1).f0)):=(blk_cell BK230.out 0).trans rfl;have hcz12_1:w11.cell? ⟨gb230,1,none⟩ = some (.int .i64 ((rd_T45 l0 x11_1).f1)):=(blk_cell BK230.out 1).trans rfl;have hcz12_2:w11.cell? ⟨gb230,2,none⟩ = some (.string ((rd_T45 l0 x11_1).f2)):=(blk_cell BK230.out 2).trans rfl;have hfz12_0:=blk_frozen BK230.out 0;have hfz12_1:=blk_frozen BK230.out 1;have hfz12_2:=blk_frozen BK230.out 2))
     go_roundg k1
     case measure => have:=HK1.out;omega
     case rel => exact ⟨(wrap64 (x3_1 + 1)),(wrap64 (x11_1 + 1)),q25_,q25_,H',⟨by have:=HK1.out;omega⟩,⟨q12_⟩⟩
    rw [if_neg c8] at H
    have c8b0:=decide_eq_false c8
    clear c8
    by_cases c13:((rd_T45 l0 x11_1).f0) ≤ 7
    ·rw [if_pos c13] at H
     have c13b0:=decide_eq_true c13
     clear c13
     by_cases c14:x3_1 < 1
     ·rw [if_pos c14] at H
      have c14b0:=decide_eq_true c14
      clear c14
      obtain rfl:=Option.some.inj H
      have p229:0 ≤ (x11_1:Int):=of_decide_eq_true q42_
      have q229:x11_1 < (l0.length:Int):=of_decide_eq_true q42_
      obtain ⟨ad229,e229,hx229_0,hx229_1,hx229_2⟩:=at_T45 HR0.out x11_1 p229 q229
      cases e229
      replace hx229_0:=(HB.out.cell (World.block_lt_of_cell? w _ hx229_0)).trans hx229_0
      replace hx229_1:=(HB.out.cell (World.block_lt_of_cell? w _ hx229_1)).trans hx229_1
      replace hx229_2:=(HB.out.cell (World.block_lt_of_cell? w _ hx229_2)).trans hx229_2
      replace p229:=eq_true p229
      replace q229:=eq_true q229
      go_wp2_with (first | ((with_reducible refine gate_dst (N:=5) rfl ?_);refine box_event ?hg (N:=5) ?hd (cs:=#[.int .i64 0,.int .i64 0,.string (⟨#[]⟩:ByteArray)]) (t:=45) ?hr ?_;(case hd => rfl);(case hg => rfl);(case hr => exact q62_);intro gb230 hg w15 hbox hb;have n0_:=Aside0.mk (below_step q20_ hb);have n1_:=Aside0.mk (hbox);have n2_:=Aside0.mk ((q10_:w.heap.size ≤ gb230));have n3_:=Aside0.mk ((q10_:w.heap.size ≤ gb230));clear HB;have HB:=n0_;have BK230:=n1_;have GW230:=n2_;have GE230:=n3_;clear n0_ n1_ n2_ n3_;clear hb hbox hg;have hcz16_0:w15.cell? ⟨gb230,0,none⟩ = some (.int .i64 0):=(blk_cell BK230.out 0).trans rfl;have hcz16_1:w15.cell? ⟨gb230,1,none⟩ = some (.int .i64 0):=(blk_cell BK230.out 1).trans rfl;have hcz16_2:w15.cell? ⟨gb230,2,none⟩ = some (.string (⟨#[]⟩:ByteArray)):=(blk_cell BK230.out 2).trans rfl;have hfz16_0:=blk_frozen BK230.out 0;have hfz16_1:=blk_frozen BK230.out 1;have hfz16_2:=blk_frozen BK230.out 2) | ((with_reducible refine gate_callee (f:=22) rfl ?_);refine goesL_ (some 16) rfl rfl Try.func22 (by kernel_rfl) rfl #[.agg #[.int .i64 ((rd_T45 l0 x11_1).f0),.int .i64 ((rd_T45 l0 x11_1).f1),.string ((rd_T45 l0 x11_1).f2)]] rfl q18_ ?_;(with_reducible refine (impl_isNode.calls k1 ((rd_T45 l0 x11_1).f0) ((rd_T45 l0 x11_1).f1) ((rd_T45 l0 x11_1).f2) true _ A6.out).mono ?_);rintro e w17 ⟨rfl,hb⟩;refine ⟨_,rfl,?_⟩;have n0_:=Aside0.mk (blk_below (g:=gb230) (o:=.cells #[.int .i64 ((rd_T45 l0 x11_1).f0),.int .i64 ((rd_T45 l0 x11_1).f1),.string ((rd_T45 l0 x11_1).f2)] 45 (0,0)) q0_ hb);have n1_:=Aside0.mk (below_step q12_ hb);clear BK230;clear HB;have BK230:=n0_;have HB:=n1_;clear n0_ n1_;(try clear hb);have hcz18_0:w17.cell? ⟨gb230,0,none⟩ = some (.int .i64 ((rd_T45 l0 x11_1).f0)):=(blk_cell BK230.out 0).trans rfl;have hcz18_1:w17.cell? ⟨gb230,1,none⟩ = some (.int .i64 ((rd_T45 l0 x11_1).f1)):=(blk_cell BK230.out 1).trans rfl;have hcz18_2:w17.cell? ⟨gb230,2,none⟩ = some (.string ((rd_T45 l0 x11_1).f2)):=(blk_cell BK230.out 2).trans rfl;have hfz18_0:=blk_frozen BK230.out 0;have hfz18_1:=blk_frozen BK230.out 1;have hfz18_2:=blk_frozen BK230.out 2))
      go_ret
      exact ⟨q21_,q12_⟩
     rw [if_neg c14] at H
     have c14b0:=decide_eq_false c14
     clear c14
     have H':=Aside0.mk H
     clear H
     have p229:0 ≤ (x11_1:Int):=of_decide_eq_true q42_
     have q229:x11_1 < (l0.length:Int):=of_decide_eq_true q42_
     obtain ⟨ad229,e229,hx229_0,hx229_1,hx229_2⟩:=at_T45 HR0.out x11_1 p229 q229
     cases e229
     replace hx229_0:=(HB.out.cell (World.block_lt_of_cell? w _ hx229_0)).trans hx229_0
     replace hx229_1:=(HB.out.cell (World.block_lt_of_cell? w _ hx229_1)).trans hx229_1
     replace hx229_2:=(HB.out.cell (World.block_lt_of_cell? w _ hx229_2)).trans hx229_2
     replace p229:=eq_true p229
     replace q229:=eq_true q229
     go_wp2_with (first | ((with_reducible refine gate_dst (N:=5) rfl ?_);refine box_event ?hg (N:=5) ?hd (cs:=#[.int .i64 0,.int .i64 0,.string (⟨#[]⟩:ByteArray)]) (t:=45) ?hr ?_;(case hd => rfl);(case hg => rfl);(case hr => exact q62_);intro gb230 hg w19 hbox hb;have n0_:=Aside0.mk (below_step q20_ hb);have n1_:=Aside0.mk (hbox);have n2_:=Aside0.mk ((q10_:w.heap.size ≤ gb230));have n3_:=Aside0.mk ((q10_:w.heap.size ≤ gb230));clear HB;have HB:=n0_;have BK230:=n1_;have GW230:=n2_;have GE230:=n3_;clear n0_ n1_ n2_ n3_;clear hb hbox hg;have hcz20_0:w19.cell? ⟨gb230,0,none⟩ = some (.int .i64 0):=(blk_cell BK230.out 0).trans rfl;have hcz20_1:w19.cell? ⟨gb230,1,none⟩ = some (.int .i64 0):=(blk_cell BK230.out 1).trans rfl;have hcz20_2:w19.cell? ⟨gb230,2,none⟩ = some (.string (⟨#[]⟩:ByteArray)):=(blk_cell BK230.out 2).trans rfl;have hfz20_0:=blk_frozen BK230.out 0;have hfz20_1:=blk_frozen BK230.out 1;have hfz20_2:=blk_frozen BK230.out 2) | ((with_reducible refine gate_callee (f:=22) rfl ?_);refine goesL_ (some 16) rfl rfl Try.func22 (by kernel_rfl) rfl #[.agg #[.int .i64 ((rd_T45 l0 x11_1).f0),.int .i64 ((rd_T45 l0 x11_1).f1),.string ((rd_T45 l0 x11_1).f2)]] rfl q18_ ?_;(with_reducible refine (impl_isNode.calls k1 ((rd_T45 l0 x11_1).f0) ((rd_T45 l0 x11_1).f1) ((rd_T45 l0 x11_1).f2) true _ A6.out).mono ?_);rintro e w21 ⟨rfl,hb⟩;refine ⟨_,rfl,?_⟩;have n0_:=Aside0.mk (blk_below (g:=gb230) (o:=.cells #[.int .i64 ((rd_T45 l0 x11_1).f0),.int .i64 ((rd_T45 l0 x11_1).f1),.string ((rd_T45 l0 x11_1).f2)] 45 (0,0)) q0_ hb);have n1_:=Aside0.mk (below_step q12_ hb);clear BK230;clear HB;have BK230:=n0_;have HB:=n1_;clear n0_ n1_;(try clear hb);have hcz22_0:w21.cell? ⟨gb230,0,none⟩ = some (.int .i64 ((rd_T45 l0 x11_1).f0)):=(blk_cell BK230.out 0).trans rfl;have hcz22_1:w21.cell? ⟨gb230,1,none⟩ = some (.int .i64 ((rd_T45 l0 x11_1).f1)):=(blk_cell BK230.out 1).trans rfl;have hcz22_2:w21.cell? ⟨gb230,2,none⟩ = some (.string ((rd_T45 l0 x11_1).f2)):=(blk_cell BK230.out 2).trans rfl;have hfz22_0:=blk_frozen BK230.out 0;have hfz22_1:=blk_frozen BK230.out 1;have hfz22_2:=blk_frozen BK230.out 2))
     go_roundg k1
     case measure => have:=HK1.out;omega
     case rel => exact ⟨(x3_1),(wrap64 (x11_1 + 1)),q25_,q25_,H',⟨by have:=HK1.out;omega⟩,⟨q12_⟩⟩
    rw [if_neg c13] at H
    have c13b0:=decide_eq_false c13
    clear c13
    by_cases c23:x3_1 < 2
    ·rw [if_pos c23] at H
     have c23b0:=decide_eq_true c23
     clear c23
     obtain rfl:=Option.some.inj H
     have p229:0 ≤ (x11_1:Int):=of_decide_eq_true q42_
     have q229:x11_1 < (l0.length:Int):=of_decide_eq_true q42_
     obtain ⟨ad229,e229,hx229_0,hx229_1,hx229_2⟩:=at_T45 HR0.out x11_1 p229 q229
     cases e229
     replace hx229_0:=(HB.out.cell (World.block_lt_of_cell? w _ hx229_0)).trans hx229_0
     replace hx229_1:=(HB.out.cell (World.block_lt_of_cell? w _ hx229_1)).trans hx229_1
     replace hx229_2:=(HB.out.cell (World.block_lt_of_cell? w _ hx229_2)).trans hx229_2
     replace p229:=eq_true p229
     replace q229:=eq_true q229
     go_wp2_with (first | ((with_reducible refine gate_dst (N:=5) rfl ?_);refine box_event ?hg (N:=5) ?hd (cs:=#[.int .i64 0,.int .i64 0,.string (⟨#[]⟩:ByteArray)]) (t:=45) ?hr ?_;(case hd => rfl);(case hg => rfl);(case hr => exact q62_);intro gb230 hg w24 hbox hb;have n0_:=Aside0.mk (below_step q20_ hb);have n1_:=Aside0.mk (hbox);have n2_:=Aside0.mk ((q10_:w.heap.size ≤ gb230));have n3_:=Aside0.mk ((q10_:w.heap.size ≤ gb230));clear HB;have HB:=n0_;have BK230:=n1_;have GW230:=n2_;have GE230:=n3_;clear n0_ n1_ n2_ n3_;clear hb hbox hg;have hcz25_0:w24.cell? ⟨gb230,0,none⟩ = some (.int .i64 0):=(blk_cell BK230.out 0).trans rfl;have hcz25_1:w24.cell? ⟨gb230,1,none⟩ = some (.int .i64 0):=(blk_cell BK230.out 1).trans rfl;have hcz25_2:w24.cell? ⟨gb230,2,none⟩ = some (.string (⟨#[]⟩:ByteArray)):=(blk_cell BK230.out 2).trans rfl;have hfz25_0:=blk_frozen BK230.out 0;have hfz25_1:=blk_frozen BK230.out 1;have hfz25_2:=blk_frozen BK230.out 2) | ((with_reducible refine gate_callee (f:=22) rfl ?_);refine goesL_ (some 16) rfl rfl Try.func22 (by kernel_rfl) rfl #[.agg #[.int .i64 ((rd_T45 l0 x11_1).f0),.int .i64 ((rd_T45 l0 x11_1).f1),.string ((rd_T45 l0 x11_1).f2)]] rfl q18_ ?_;(with_reducible refine (impl_isNode.calls k1 ((rd_T45 l0 x11_1).f0) ((rd_T45 l0 x11_1).f1) ((rd_T45 l0 x11_1).f2) true _ A6.out).mono ?_);rintro e w26 ⟨rfl,hb⟩;refine ⟨_,rfl,?_⟩;have n0_:=Aside0.mk (blk_below (g:=gb230) (o:=.cells #[.int .i64 ((rd_T45 l0 x11_1).f0),.int .i64 ((rd_T45 l0 x11_1).f1),.string ((rd_T45 l0 x11_1).f2)] 45 (0,0)) q0_ hb);have n1_:=Aside0.mk (below_step q12_ hb);clear BK230;clear HB;have BK230:=n0_;have HB:=n1_;clear n0_ n1_;(try clear hb);have hcz27_0:w26.cell? ⟨gb230,0,none⟩ = some (.int .i64 ((rd_T45 l0 x11_1).f0)):=(blk_cell BK230.out 0).trans rfl;have hcz27_1:w26.cell? ⟨gb230,1,none⟩ = some (.int .i64 ((rd_T45 l0 x11_1).f1)):=(blk_cell BK230.out 1).trans rfl;have hcz27_2:w26.cell? ⟨gb230,2,none⟩ = some (.string ((rd_T45 l0 x11_1).f2)):=(blk_cell BK230.out 2).trans rfl;have hfz27_0:=blk_frozen BK230.out 0;have hfz27_1:=blk_frozen BK230.out 1;have hfz27_2:=blk_frozen BK230.out 2))
     go_ret
     exact ⟨q21_,q12_⟩
    rw [if_neg c23] at H
    have c23b0:=decide_eq_false c23
    clear c23
    have H':=Aside0.mk H
    clear H
    have p229:0 ≤ (x11_1:Int):=of_decide_eq_true q42_
    have q229:x11_1 < (l0.length:Int):=of_decide_eq_true q42_
    obtain ⟨ad229,e229,hx229_0,hx229_1,hx229_2⟩:=at_T45 HR0.out x11_1 p229 q229
    cases e229
    replace hx229_0:=(HB.out.cell (World.block_lt_of_cell? w _ hx229_0)).trans hx229_0
    replace hx229_1:=(HB.out.cell (World.block_lt_of_cell? w _ hx229_1)).trans hx229_1
    replace hx229_2:=(HB.out.cell (World.block_lt_of_cell? w _ hx229_2)).trans hx229_2
    replace p229:=eq_true p229
    replace q229:=eq_true q229
    go_wp2_with (first | ((with_reducible refine gate_dst (N:=5) rfl ?_);refine box_event ?hg (N:=5) ?hd (cs:=#[.int .i64 0,.int .i64 0,.string (⟨#[]⟩:ByteArray)]) (t:=45) ?hr ?_;(case hd => rfl);(case hg => rfl);(case hr => exact q62_);intro gb230 hg w28 hbox hb;have n0_:=Aside0.mk (below_step q20_ hb);have n1_:=Aside0.mk (hbox);have n2_:=Aside0.mk ((q10_:w.heap.size ≤ gb230));have n3_:=Aside0.mk ((q10_:w.heap.size ≤ gb230));clear HB;have HB:=n0_;have BK230:=n1_;have GW230:=n2_;have GE230:=n3_;clear n0_ n1_ n2_ n3_;clear hb hbox hg;have hcz29_0:w28.cell? ⟨gb230,0,none⟩ = some (.int .i64 0):=(blk_cell BK230.out 0).trans rfl;have hcz29_1:w28.cell? ⟨gb230,1,none⟩ = some (.int .i64 0):=(blk_cell BK230.out 1).trans rfl;have hcz29_2:w28.cell? ⟨gb230,2,none⟩ = some (.string (⟨#[]⟩:ByteArray)):=(blk_cell BK230.out 2).trans rfl;have hfz29_0:=blk_frozen BK230.out 0;have hfz29_1:=blk_frozen BK230.out 1;have hfz29_2:=blk_frozen BK230.out 2) | ((with_reducible refine gate_callee (f:=22) rfl ?_);refine goesL_ (some 16) rfl rfl Try.func22 (by kernel_rfl) rfl #[.agg #[.int .i64 ((rd_T45 l0 x11_1).f0),.int .i64 ((rd_T45 l0 x11_1).f1),.string ((rd_T45 l0 x11_1).f2)]] rfl q18_ ?_;(with_reducible refine (impl_isNode.calls k1 ((rd_T45 l0 x11_1).f0) ((rd_T45 l0 x11_1).f1) ((rd_T45 l0 x11_1).f2) true _ A6.out).mono ?_);rintro e w30 ⟨rfl,hb⟩;refine ⟨_,rfl,?_⟩;have n0_:=Aside0.mk (blk_below (g:=gb230) (o:=.cells #[.int .i64 ((rd_T45 l0 x11_1).f0),.int .i64 ((rd_T45 l0 x11_1).f1),.string ((rd_T45 l0 x11_1).f2)] 45 (0,0)) q0_ hb);have n1_:=Aside0.mk (below_step q12_ hb);clear BK230;clear HB;have BK230:=n0_;have HB:=n1_;clear n0_ n1_;(try clear hb);have hcz31_0:w30.cell? ⟨gb230,0,none⟩ = some (.int .i64 ((rd_T45 l0 x11_1).f0)):=(blk_cell BK230.out 0).trans rfl;have hcz31_1:w30.cell? ⟨gb230,1,none⟩ = some (.int .i64 ((rd_T45 l0 x11_1).f1)):=(blk_cell BK230.out 1).trans rfl;have hcz31_2:w30.cell? ⟨gb230,2,none⟩ = some (.string ((rd_T45 l0 x11_1).f2)):=(blk_cell BK230.out 2).trans rfl;have hfz31_0:=blk_frozen BK230.out 0;have hfz31_1:=blk_frozen BK230.out 1;have hfz31_2:=blk_frozen BK230.out 2))
    go_roundg k1
    case measure => have:=HK1.out;omega
    case rel => exact ⟨(wrap64 (x3_1 - 1)),(wrap64 (x11_1 + 1)),q25_,q25_,H',⟨by have:=HK1.out;omega⟩,⟨q12_⟩⟩
   replace c7:=Bool.eq_false_iff.mpr c7
   subst c7
   rewrite [if_neg (show ¬ (false = true) by decide)] at H
   obtain rfl:=Option.some.inj H
   have p229:0 ≤ (x11_1:Int):=of_decide_eq_true q42_
   have q229:x11_1 < (l0.length:Int):=of_decide_eq_true q42_
   obtain ⟨ad229,e229,hx229_0,hx229_1,hx229_2⟩:=at_T45 HR0.out x11_1 p229 q229
   cases e229
   replace hx229_0:=(HB.out.cell (World.block_lt_of_cell? w _ hx229_0)).trans hx229_0
   replace hx229_1:=(HB.out.cell (World.block_lt_of_cell? w _ hx229_1)).trans hx229_1
   replace hx229_2:=(HB.out.cell (World.block_lt_of_cell? w _ hx229_2)).trans hx229_2
   replace p229:=eq_true p229
   replace q229:=eq_true q229
   go_wp2_with (first | ((with_reducible refine gate_dst (N:=5) rfl ?_);refine box_event ?hg (N:=5) ?hd (cs:=#[.int .i64 0,.int .i64 0,.string (⟨#[]⟩:ByteArray)]) (t:=45) ?hr ?_;(case hd => rfl);(case hg => rfl);(case hr => exact q62_);intro gb230 hg w32 hbox hb;have n0_:=Aside0.mk (below_step q20_ hb);have n1_:=Aside0.mk (hbox);have n2_:=Aside0.mk ((q10_:w.heap.size ≤ gb230));have n3_:=Aside0.mk ((q10_:w.heap.size ≤ gb230));clear HB;have HB:=n0_;have BK230:=n1_;have GW230:=n2_;have GE230:=n3_;clear n0_ n1_ n2_ n3_;clear hb hbox hg;have hcz33_0:w32.cell? ⟨gb230,0,none⟩ = some (.int .i64 0):=(blk_cell BK230.out 0).trans rfl;have hcz33_1:w32.cell? ⟨gb230,1,none⟩ = some (.int .i64 0):=(blk_cell BK230.out 1).trans rfl;have hcz33_2:w32.cell? ⟨gb230,2,none⟩ = some (.string (⟨#[]⟩:ByteArray)):=(blk_cell BK230.out 2).trans rfl;have hfz33_0:=blk_frozen BK230.out 0;have hfz33_1:=blk_frozen BK230.out 1;have hfz33_2:=blk_frozen BK230.out 2) | ((with_reducible refine gate_callee (f:=22) rfl ?_);refine goesL_ (some 16) rfl rfl Try.func22 (by kernel_rfl) rfl #[.agg #[.int .i64 ((rd_T45 l0 x11_1).f0),.int .i64 ((rd_T45 l0 x11_1).f1),.string ((rd_T45 l0 x11_1).f2)]] rfl q18_ ?_;(with_reducible refine (impl_isNode.calls k1 ((rd_T45 l0 x11_1).f0) ((rd_T45 l0 x11_1).f1) ((rd_T45 l0 x11_1).f2) false _ A6.out).mono ?_);rintro e w34 ⟨rfl,hb⟩;refine ⟨_,rfl,?_⟩;have n0_:=Aside0.mk (blk_below (g:=gb230) (o:=.cells #[.int .i64 ((rd_T45 l0 x11_1).f0),.int .i64 ((rd_T45 l0 x11_1).f1),.string ((rd_T45 l0 x11_1).f2)] 45 (0,0)) q0_ hb);have n1_:=Aside0.mk (below_step q12_ hb);clear BK230;clear HB;have BK230:=n0_;have HB:=n1_;clear n0_ n1_;(try clear hb)))
   go_ret
   exact ⟨q21_,q12_⟩
  rw [if_neg c3] at H
  have c3b0:=decide_eq_false c3
  clear c3
  obtain rfl:=Option.some.inj H
  go_wp2
  go_ret
  exact ⟨q21_,q20_⟩
-- NOT PRINTED: function 23 (impl_Sym)
def impl_signed.f (a0:Int) (a1:Int):Option (Int):=if a0 = 4 then (some (wrap32 (-a1))) else (if a0 = 5 then (some (Go.bits .xor .i32 (-1) a1)) else (if a0 = 6 then (some (Go.bits .and .i32 (a1 / 256) 255)) else (some (Go.bits .and .i32 a1 255))))
theorem impl_signed.calls (a0:Int) (a1:Int) (r:Int) (w:World) (h:impl_signed.f a0 a1 = some r) :
  Calls Try.prog 25 #[.int .i64 a0,.int .i32 a1] w fun e w' => e = .returned (.int .i32 r) ∧ Drawn0 w w':=by
 have H:=h;unfold impl_signed.f at H
 clear h
 by_cases c3:a0 = 4
 ·rw [if_pos c3] at H
  have c3b0:(a0 == 4) = true:=beq_iff_eq.mpr c3
  have c3b1:(a0 != 4) = false:=bne_eq_false_iff_eq.mpr c3
  clear c3
  obtain rfl:=Option.some.inj H
  go_enter Try.func25,Try.ntmps25
  go_wp2
  go_ret
  exact ⟨q25_,q40_⟩
 rw [if_neg c3] at H
 have c3b0:(a0 == 4) = false:=beq_eq_false_iff_ne.mpr c3
 have c3b1:(a0 != 4) = true:=bne_iff_ne.mpr c3
 by_cases c4:a0 = 5
 ·rw [if_pos c4] at H
  have c4b0:(a0 == 5) = true:=beq_iff_eq.mpr c4
  have c4b1:(a0 != 5) = false:=bne_eq_false_iff_eq.mpr c4
  clear c4
  obtain rfl:=Option.some.inj H
  go_enter Try.func25,Try.ntmps25
  go_wp2
  go_ret
  exact ⟨q25_,q40_⟩
 rw [if_neg c4] at H
 have c4b0:(a0 == 5) = false:=beq_eq_false_iff_ne.mpr c4
 have c4b1:(a0 != 5) = true:=bne_iff_ne.mpr c4
 by_cases c5:a0 = 6
 ·rw [if_pos c5] at H
  have c5b0:(a0 == 6) = true:=beq_iff_eq.mpr c5
  have c5b1:(a0 != 6) = false:=bne_eq_false_iff_eq.mpr c5
  clear c5
  obtain rfl:=Option.some.inj H
  go_enter Try.func25,Try.ntmps25
  go_wp2
  go_ret
  exact ⟨q25_,q40_⟩
 rw [if_neg c5] at H
 have c5b0:(a0 == 6) = false:=beq_eq_false_iff_ne.mpr c5
 have c5b1:(a0 != 6) = true:=bne_iff_ne.mpr c5
 obtain rfl:=Option.some.inj H
 go_enter Try.func25,Try.ntmps25
 go_wp2
 go_ret
 exact ⟨q25_,q40_⟩
def impl_operated.f (a0:Int) (a1:Int) (a2:Int):Option (Int × Bool):=if a0 = 8 then (some (wrap32 (a1 + a2),true)) else (if a0 = 9 then (some (wrap32 (a1 - a2),true)) else (if a0 = 10 then (some (wrap32 (a1 * a2),true)) else (if a0 = 11 then (if a2 = 0 then (some (0,false)) else (some (wrap32 (Int.tdiv a1 a2),true))) else (if a0 = 12 then (if a2 = 0 then (some (0,false)) else (some (Int.tmod a1 a2,true))) else (if a0 = 13 then (some (Go.bits .and .i32 a1 a2,true)) else (if a0 = 14 then (some (Go.bits .xor .i32 a1 a2,true)) else (if a0 = 15 then (some (Go.bits .or .i32 a1 a2,true)) else (if a0 = 16 then (if 0 ≤ (Go.bits .and .u32 ((a2) % 4294967296) 31) then (some (shl .i32 a1 (Go.bits .and .u32 ((a2) % 4294967296) 31),true)) else (none)) else (if 0 ≤ (Go.bits .and .u32 ((a2) % 4294967296) 31) then (some (shr .i32 a1 (Go.bits .and .u32 ((a2) % 4294967296) 31),true)) else (none))))))))))
theorem impl_operated.calls (a0:Int) (a1:Int) (a2:Int) (r1:Int) (r2:Bool) (w:World) (h:impl_operated.f a0 a1 a2 = some (r1,r2)) :
  Calls Try.prog 26 #[.int .i64 a0,.int .i32 a1,.int .i32 a2] w fun e w' => e = .returned (.tuple #[.int .i32 r1,.bool r2]) ∧ Drawn0 w w':=by
 have H:=h;unfold impl_operated.f at H
 clear h
 by_cases c4:a0 = 8
 ·rw [if_pos c4] at H
  have c4b0:(a0 == 8) = true:=beq_iff_eq.mpr c4
  have c4b1:(a0 != 8) = false:=bne_eq_false_iff_eq.mpr c4
  clear c4
  simp only [Option.some.injEq,Prod.mk.injEq] at H
  obtain ⟨rfl,rfl⟩:=H
  go_enter Try.func26,Try.ntmps26
  go_wp2
  go_ret2
  exact ⟨q25_,q40_⟩
 rw [if_neg c4] at H
 have c4b0:(a0 == 8) = false:=beq_eq_false_iff_ne.mpr c4
 have c4b1:(a0 != 8) = true:=bne_iff_ne.mpr c4
 by_cases c5:a0 = 9
 ·rw [if_pos c5] at H
  have c5b0:(a0 == 9) = true:=beq_iff_eq.mpr c5
  have c5b1:(a0 != 9) = false:=bne_eq_false_iff_eq.mpr c5
  clear c5
  simp only [Option.some.injEq,Prod.mk.injEq] at H
  obtain ⟨rfl,rfl⟩:=H
  go_enter Try.func26,Try.ntmps26
  go_wp2
  go_ret2
  exact ⟨q25_,q40_⟩
 rw [if_neg c5] at H
 have c5b0:(a0 == 9) = false:=beq_eq_false_iff_ne.mpr c5
 have c5b1:(a0 != 9) = true:=bne_iff_ne.mpr c5
 by_cases c6:a0 = 10
 ·rw [if_pos c6] at H
  have c6b0:(a0 == 10) = true:=beq_iff_eq.mpr c6
  have c6b1:(a0 != 10) = false:=bne_eq_false_iff_eq.mpr c6
  clear c6
  simp only [Option.some.injEq,Prod.mk.injEq] at H
  obtain ⟨rfl,rfl⟩:=H
  go_enter Try.func26,Try.ntmps26
  go_wp2
  go_ret2
  exact ⟨q25_,q40_⟩
 rw [if_neg c6] at H
 have c6b0:(a0 == 10) = false:=beq_eq_false_iff_ne.mpr c6
 have c6b1:(a0 != 10) = true:=bne_iff_ne.mpr c6
 by_cases c7:a0 = 11
 ·rw [if_pos c7] at H
  have c7b0:(a0 == 11) = true:=beq_iff_eq.mpr c7
  have c7b1:(a0 != 11) = false:=bne_eq_false_iff_eq.mpr c7
  clear c7
  by_cases c8:a2 = 0
  ·rw [if_pos c8] at H
   have c8b0:(a2 == 0) = true:=beq_iff_eq.mpr c8
   have c8b1:(a2 != 0) = false:=bne_eq_false_iff_eq.mpr c8
   clear c8
   simp only [Option.some.injEq,Prod.mk.injEq] at H
   obtain ⟨rfl,rfl⟩:=H
   go_enter Try.func26,Try.ntmps26
   go_wp2
   go_ret2
   exact ⟨q25_,q40_⟩
  rw [if_neg c8] at H
  have c8b0:(a2 == 0) = false:=beq_eq_false_iff_ne.mpr c8
  have c8b1:(a2 != 0) = true:=bne_iff_ne.mpr c8
  simp only [Option.some.injEq,Prod.mk.injEq] at H
  obtain ⟨rfl,rfl⟩:=H
  go_enter Try.func26,Try.ntmps26
  go_wp2
  go_ret2
  exact ⟨q25_,q40_⟩
 rw [if_neg c7] at H
 have c7b0:(a0 == 11) = false:=beq_eq_false_iff_ne.mpr c7
 have c7b1:(a0 != 11) = true:=bne_iff_ne.mpr c7
 by_cases c9:a0 = 12
 ·rw [if_pos c9] at H
  have c9b0:(a0 == 12) = true:=beq_iff_eq.mpr c9
  have c9b1:(a0 != 12) = false:=bne_eq_false_iff_eq.mpr c9
  clear c9
  by_cases c10:a2 = 0
  ·rw [if_pos c10] at H
   have c10b0:(a2 == 0) = true:=beq_iff_eq.mpr c10
   have c10b1:(a2 != 0) = false:=bne_eq_false_iff_eq.mpr c10
   clear c10
   simp only [Option.some.injEq,Prod.mk.injEq] at H
   obtain ⟨rfl,rfl⟩:=H
   go_enter Try.func26,Try.ntmps26
   go_wp2
   go_ret2
   exact ⟨q25_,q40_⟩
  rw [if_neg c10] at H
  have c10b0:(a2 == 0) = false:=beq_eq_false_iff_ne.mpr c10
  have c10b1:(a2 != 0) = true:=bne_iff_ne.mpr c10
  simp only [Option.some.injEq,Prod.mk.injEq] at H
  obtain ⟨rfl,rfl⟩:=H
  go_enter Try.func26,Try.ntmps26
  go_wp2
  go_ret2
  exact ⟨q25_,q40_⟩
 rw [if_neg c9] at H
 have c9b0:(a0 == 12) = false:=beq_eq_false_iff_ne.mpr c9
 have c9b1:(a0 != 12) = true:=bne_iff_ne.mpr c9
 by_cases c11:a0 = 13
 ·rw [if_pos c11] at H
  have c11b0:(a0 == 13) = true:=beq_iff_eq.mpr c11
  have c11b1:(a0 != 13) = false:=bne_eq_false_iff_eq.mpr c11
  clear c11
  simp only [Option.some.injEq,Prod.mk.injEq] at H
  obtain ⟨rfl,rfl⟩:=H
  go_enter Try.func26,Try.ntmps26
  go_wp2
  go_ret2
  exact ⟨q25_,q40_⟩
 rw [if_neg c11] at H
 have c11b0:(a0 == 13) = false:=beq_eq_false_iff_ne.mpr c11
 have c11b1:(a0 != 13) = true:=bne_iff_ne.mpr c11
 by_cases c12:a0 = 14
 ·rw [if_pos c12] at H
  have c12b0:(a0 == 14) = true:=beq_iff_eq.mpr c12
  have c12b1:(a0 != 14) = false:=bne_eq_false_iff_eq.mpr c12
  clear c12
  simp only [Option.some.injEq,Prod.mk.injEq] at H
  obtain ⟨rfl,rfl⟩:=H
  go_enter Try.func26,Try.ntmps26
  go_wp2
  go_ret2
  exact ⟨q25_,q40_⟩
 rw [if_neg c12] at H
 have c12b0:(a0 == 14) = false:=beq_eq_false_iff_ne.mpr c12
 have c12b1:(a0 != 14) = true:=bne_iff_ne.mpr c12
 by_cases c13:a0 = 15
 ·rw [if_pos c13] at H
  have c13b0:(a0 == 15) = true:=beq_iff_eq.mpr c13
  have c13b1:(a0 != 15) = false:=bne_eq_false_iff_eq.mpr c13
  clear c13
  simp only [Option.some.injEq,Prod.mk.injEq] at H
  obtain ⟨rfl,rfl⟩:=H
  go_enter Try.func26,Try.ntmps26
  go_wp2
  go_ret2
  exact ⟨q25_,q40_⟩
 rw [if_neg c13] at H
 have c13b0:(a0 == 15) = false:=beq_eq_false_iff_ne.mpr c13
 have c13b1:(a0 != 15) = true:=bne_iff_ne.mpr c13
 by_cases c14:a0 = 16
 ·rw [if_pos c14] at H
  have c14b0:(a0 == 16) = true:=beq_iff_eq.mpr c14
  have c14b1:(a0 != 16) = false:=bne_eq_false_iff_eq.mpr c14
  clear c14
  obtain ⟨ji15,hji15⟩:∃ j_:Int,(Go.bits .and .u32 ((a2) % 4294967296) 31) = j_:=⟨_,rfl⟩
  (first | rewrite [hji15] at H | simp only [hji15] at H)
  by_cases c16:0 ≤ (ji15)
  rotate_left
  ·rw [if_neg c16] at H
   exact absurd H (by simp)
  rw [if_pos c16] at H
  have c16b0:=eq_true c16
  have c16b1:=decide_eq_true c16
  clear c16
  obtain ⟨ji17,hji17⟩:∃ j_:Int,(shl .i32 a1 (ji15)) = j_:=⟨_,rfl⟩
  (first | rewrite [hji17] at H | simp only [hji17] at H)
  have hji17_:(IntKind.i32.wrap (a1 * 2 ^ min (ji15).toNat 32)) = ji17:=hji17
  have hji17z:(ji15) ≤ 32 → (IntKind.i32.wrap (a1 * 2 ^ (ji15).toNat)) = ji17:=shl_small hji17
  have hji17y:(wrap32 (a1 * 2 ^ min (ji15).toNat 32)) = ji17:=(i32_w _).symm.trans hji17_
  have hji17x:(ji15) ≤ 32 → (wrap32 (a1 * 2 ^ (ji15).toNat)) = ji17:=fun h_ => (i32_w _).symm.trans (hji17z h_)
  simp only [Option.some.injEq,Prod.mk.injEq] at H
  obtain ⟨rfl,rfl⟩:=H
  go_enter Try.func26,Try.ntmps26
  go_wp2
  go_ret2
  exact ⟨by first | rfl | (simp;done) | (simp only [← hji15,← hji17] <;> (first | rfl | (simp;done))) | (simp [*];done) | (simp;decide +kernel) | (simp [wrap64];done) | (simp [bne];done),q40_⟩
 rw [if_neg c14] at H
 have c14b0:(a0 == 16) = false:=beq_eq_false_iff_ne.mpr c14
 have c14b1:(a0 != 16) = true:=bne_iff_ne.mpr c14
 obtain ⟨ji18,hji18⟩:∃ j_:Int,(Go.bits .and .u32 ((a2) % 4294967296) 31) = j_:=⟨_,rfl⟩
 (first | rewrite [hji18] at H | simp only [hji18] at H)
 by_cases c19:0 ≤ (ji18)
 rotate_left
 ·rw [if_neg c19] at H
  exact absurd H (by simp)
 rw [if_pos c19] at H
 have c19b0:=eq_true c19
 have c19b1:=decide_eq_true c19
 clear c19
 obtain ⟨ji20,hji20⟩:∃ j_:Int,(shr .i32 a1 (ji18)) = j_:=⟨_,rfl⟩
 (first | rewrite [hji20] at H | simp only [hji20] at H)
 have hji20_:(a1 / 2 ^ min (ji18).toNat 32) = ji20:=hji20
 have hji20z:(ji18) ≤ 32 → (a1 / 2 ^ (ji18).toNat) = ji20:=shr_small hji20
 simp only [Option.some.injEq,Prod.mk.injEq] at H
 obtain ⟨rfl,rfl⟩:=H
 go_enter Try.func26,Try.ntmps26
 go_wp2
 go_ret2
 exact ⟨by first | rfl | (simp;done) | (simp only [← hji18,← hji20] <;> (first | rfl | (simp;done))) | (simp [*];done) | (simp;decide +kernel) | (simp [wrap64];done) | (simp [bne];done),q40_⟩
end Go.Proofs.Ytpghjbikjmnnoaa.QFnEval
