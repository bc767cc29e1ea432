/- The machine's side of a law,written by a program of this session for this claim. -/
import Derived.Test.YtpghjbikjmnnoaaSFnEvalQq
import Derived.Test.YtpghjbikjmnnoaaSFnEvalLibIy
import Derived.Test.YtpghjbikjmnnoaaSFnEvalQFnEvalx0
import Derived.Test.YtpghjbikjmnnoaaSFnEvalQFnEvalx5
namespace Go.Proofs.Ytpghjbikjmnnoaa.QFnEval
open Go.Proofs.Ytpghjbikjmnnoaa.Qq
open Go.RowKit Go.Proofs.Ytpghjbikjmnnoaa.LibX Go.Proofs.Ytpghjbikjmnnoaa.LibG Go.Proofs.Ytpghjbikjmnnoaa.LibCv Go.Proofs.Ytpghjbikjmnnoaa.LibNm Go.Proofs.Ytpghjbikjmnnoaa.LibIx Go.Proofs.YtpghjbikjmnnoaaW.PrintWords Go.Proofs.YtpghjbikjmnnoaaW.PrintLast Go.Proofs.YtpghjbikjmnnoaaW.PrintMore
attribute [local go_sem] max2_int min2_int max_two min_two max_three min_three max_four min_four   -- for this text's walks alone
set_option maxHeartbeats 8000000
set_option maxRecDepth 100000
set_option linter.unusedVariables false
set_option linter.unusedSimpArgs false
def impl_evaluated.l0:Nat → List (S33) → List Int → List (S45) → Int → Int → Option (Int × Int)
 | 0,_,_,_,_,_ => none
 | k + 1,x1,x6,x15,x16,x17 => if x17 < x16 then (if 0 ≤ x17 then (if x17 < (x15.length:Int) then (if ((rd_T45 x15 x17).f0) = 1 then (if x6.length < 35184372088832 then (impl_evaluated.l0 k x1 (x6 ++ [wrap32 ((rd_T45 x15 x17).f1)]) x15 x16 (wrap64 (x17 + 1))) else (none)) else (if ((rd_T45 x15 x17).f0) ≤ 3 then ((l2Sym_idx.f k x1 ((rd_T45 x15 x17).f2)).bind fun t241 => (if t241 < 0 then (some (0,2)) else (if 0 ≤ t241 then (if t241 < (x1.length:Int) then (if ((rd_T45 x15 x17).f0) = 3 then (if x6.length < 35184372088832 then (impl_evaluated.l0 k x1 (x6 ++ [wrap32 ((rd_T33 x1 t241).f1)]) x15 x16 (wrap64 (x17 + 1))) else (none)) else (if x6.length < 35184372088832 then (impl_evaluated.l0 k x1 (x6 ++ [wrap32 ((rd_T33 x1 t241).f2)]) x15 x16 (wrap64 (x17 + 1))) else (none))) else (none)) else (none)))) else (if ((rd_T45 x15 x17).f0) ≤ 7 then (if 0 ≤ (wrap64 ((x6.length:Int) - 1)) then (if (wrap64 ((x6.length:Int) - 1)) < (x6.length:Int) then ((impl_signed.f ((rd_T45 x15 x17).f0) (rd x6 (wrap64 ((x6.length:Int) - 1)))).bind fun t251 => (impl_evaluated.l0 k x1 (x6.set ((wrap64 ((x6.length:Int) - 1)):Int).toNat t251) x15 x16 (wrap64 (x17 + 1)))) else (none)) else (none)) else (if 0 ≤ (wrap64 ((x6.length:Int) - 2)) then (if (wrap64 ((x6.length:Int) - 2)) < (x6.length:Int) then (if 0 ≤ (wrap64 ((x6.length:Int) - 1)) then (if (wrap64 ((x6.length:Int) - 1)) < (x6.length:Int) then ((impl_operated.f ((rd_T45 x15 x17).f0) (rd x6 (wrap64 ((x6.length:Int) - 2))) (rd x6 (wrap64 ((x6.length:Int) - 1)))).bind fun bt255 => (if bt255.2 = true then (if (wrap64 ((x6.length:Int) - 2)) ≤ (x6.length:Int) then ((some (x6.take ((wrap64 ((x6.length:Int) - 2)):Int).toNat:List Int)).bind fun y257 => (if y257.length < 35184372088832 then (impl_evaluated.l0 k x1 (y257 ++ [bt255.1]) x15 x16 (wrap64 (x17 + 1))) else (none))) else (none)) else (some (0,3)))) else (none)) else (none)) else (none)) else (none))))) else (none)) else (none)) else (if 0 < (x6.length:Int) then (some (wrap64 (rd x6 0),0)) else (none))
def impl_evaluated.f (k:Nat) (l0:List (S45)) (l1:List (S33)):Option (Int × Int):=impl_evaluated.l0 k l1 (([]:List Int)) l0 (l0.length:Int) 0
theorem impl_evaluated.mono_l:∀ k,(∀ y0 y1 y2 y3 y4,LeO (impl_evaluated.l0 k y0 y1 y2 y3 y4) (impl_evaluated.l0 (k + 1) y0 y1 y2 y3 y4))
 | 0 => fun _ _ _ _ _ r h => by simp [impl_evaluated.l0] at h
 | k + 1 => by
  have ih0:=impl_evaluated.mono_l k
  intro y0 y1 y2 y3 y4
  unfold impl_evaluated.l0
  repeat' first
  | (with_reducible first | exact ih0 _ _ _ _ _ | exact l2Sym_idx.mono _ _ _ | exact LeO.refl _ | exact LeO.none _ | refine LeO.ite ?_ ?_ | refine LeO.bind ?_ (fun _ => ?_))
  | exact ih0 _ _ _ _ _
  | exact l2Sym_idx.mono _ _ _
  | exact LeO.none _
  | refine LeO.ite ?_ ?_
  | refine LeO.bind ?_ (fun _ => ?_)
theorem impl_evaluated.mono:∀ a0 a1 k,LeO (impl_evaluated.f k a0 a1) (impl_evaluated.f (k + 1) a0 a1):=by
 intro a0 a1 k
 have ih0:=impl_evaluated.mono_l k
 unfold impl_evaluated.f
 repeat' first
   | (with_reducible first | exact ih0 _ _ _ _ _ | exact l2Sym_idx.mono _ _ _ | exact LeO.refl _ | exact LeO.none _ | refine LeO.ite ?_ ?_ | refine LeO.bind ?_ (fun _ => ?_))
   | exact ih0 _ _ _ _ _
   | exact l2Sym_idx.mono _ _ _
   | exact LeO.none _
   | refine LeO.ite ?_ ?_
   | refine LeO.bind ?_ (fun _ => ?_)
def impl_evaluated.T6:Bool × List (List Nat × List Nat):=(true,[([],[]),([0],[0]),([],[]),([],[]),([3],[3]),([2,4],[2,4]),([5],[5]),([],[]),([],[]),([8],[8]),([7,9],[7,9]),([10],[10]),([1,6,11],[1,6,11]),([12],[12]),([13],[13]),([13],[13]),([14,12,0,1,2,3,4,5,6,7,8,9,10,11,12,13,14],[14]),([15,16,0,1,2,3,4,5,6,7,8,9,10,11,12,13,14,15,16],[15])])
def impl_evaluated.B6:List Nat:=[0,1,0,0,8,28,60,0,0,256,896,1920,4095,8191,16383,16383,32767,131071]
theorem impl_evaluated.tab6:rtab .any (opsOf Try.f13 6) = impl_evaluated.T6:=by kernel_rfl
theorem impl_evaluated.bits6:waitsOk impl_evaluated.T6.2 impl_evaluated.B6 = true:=by kernel_rfl
def impl_evaluated.T21:Bool × List (List Nat × List Nat):=(true,[([],[]),([],[]),([1],[1]),([],[]),([3],[3]),([],[]),([],[]),([6],[6]),([5,7],[5,7]),([8],[8]),([4,9],[4,9]),([0,2,0,1,2,3,4,5,6,7,8,9,10],[0,2]),([11,10,10,0,1,2,3,4,5,6,7,8,9,10],[10,11])])
def impl_evaluated.B21:List Nat:=[0,0,2,0,8,0,0,64,224,480,1016,2047,4095]
theorem impl_evaluated.tab21:rtab .any (opsOf Try.f13 21) = impl_evaluated.T21:=by kernel_rfl
theorem impl_evaluated.bits21:waitsOk impl_evaluated.T21.2 impl_evaluated.B21 = true:=by kernel_rfl
theorem impl_evaluated.calls (k:Nat) (A0:Option Addr) (c0:Nat) (l0:List (S45)) (A1:Option Addr) (c1:Nat) (l1:List (S33)) (r1:Int) (r2:Int) (w:World) (hr0:Kd.C k45 w A0 l0.length l0) (hc0:l0.length ≤ c0) (hr1:Kd.C k33 w A1 l1.length l1) (hc1:l1.length ≤ c1) (h:impl_evaluated.f k l0 l1 = some (r1,r2)) :
  Calls Try.prog 13 #[.slice A0 l0.length c0,.slice A1 l1.length c1] w fun e w' => e = .returned (.tuple #[.int .i64 r1,.int .i64 r2]) ∧ Below w.heap.size w w':=by
 have hu45:=Try.underlying45
 have HR0:=Aside0.mk hr0
 have HC0:=Aside0.mk hc0
 clear hr0 hc0
 have HR1:=Aside0.mk hr1
 have HC1:=Aside0.mk hc1
 clear hr1 hc1
 have HB:=Aside0.mk (Below.refl w.heap.size w)
 have H:=h;unfold impl_evaluated.f at H
 clear h
 obtain ⟨y232,hy232⟩:∃ y_:List Int,y_ = (([]:List Int)):=⟨_,rfl⟩
 replace H:(impl_evaluated.l0 k l1 y232 l0 (l0.length:Int) 0) = some (r1,r2):=by first | (rw [hy232];exact H) | exact H
 have Ny232:=Aside0.mk hy232
 clear hy232
 have H':=Aside0.mk H
 clear H
 go_enter Try.func13,Try.ntmps13
 go_wp2_with (first | ((with_reducible refine gate_dst (N:=14) rfl ?_);refine Kd.R_lit (Kd.int .i32) _ 21 ?hg (N:=14) ?hd (xs:=([]:List Int)) (inner:=[]) (ok:=fun _ => True) (okp:=fun _ => True) ?hr ?hp (fun _ hk => hk) trivial (Below.refl _ _) (Nat.le_refl _) (by simp) ?_;(case hd => rfl);(case hg => rfl);(case hr => exact q62_);(case hp => exact (Reps.none _ _));intro v233 w3 ho4 hb hg_ hnew_;clear hg_ hnew_;(first | rw [← Ny232.out] at ho4 | (simp only [Int.reduceToNat] at ho4;rw [← Ny232.out] at ho4));have n0_:=Aside0.mk (Kd.R_lower ho4 (below_size q20_));have n1_:=Aside0.mk (below_step q20_ hb);clear HB;have HO234:=n0_;have HB:=n1_;clear n0_ n1_;clear hb ho4))
 go_loopg [6,17] k (fun kq v6 v17 w' => ∃ (x6_1:List Int) (x17_1:Int),v17 = .int .i64 x17_1 ∧ Aside0 (impl_evaluated.l0 kq l1 x6_1 l0 (l0.length:Int) x17_1 = some (r1,r2)) ∧ Aside0 (kq ≤ k) ∧ Aside0 (Kd.R (Kd.int .i32) 21 w' w.heap.size (fun _ => True) v6 x6_1) ∧ Aside0 (Below w.heap.size w w'))
 case atStart => exact ⟨(y232),(0),q25_,H',⟨Nat.le_refl _⟩,⟨by (with_reducible repeat (first | apply Kd.R_alloc | apply Kd.R_drewN | apply Kd.R_drew));exact HO234.out⟩,⟨q20_⟩⟩
 clear H'
 try clear c1
 try clear p2
 obtain ⟨x6_1,x17_1,rfl,HA,HK1,HO_6,HB⟩:=hrel
 cases gk with
 | zero => exact absurd HA.out (by simp [impl_evaluated.l0])
 | succ k1 =>
  have H:=HA.out
  clear HA
  simp only [impl_evaluated.l0] at H
  by_cases c5:x17_1 < (l0.length:Int)
  ·rw [if_pos c5] at H
   have c5b0:=decide_eq_true c5
   clear c5
   by_cases c6:0 ≤ x17_1
   rotate_left
   ·rw [if_neg c6] at H
    exact absurd H (by simp)
   rw [if_pos c6] at H
   have c6b0:=decide_eq_true c6
   clear c6
   by_cases c7:x17_1 < (l0.length:Int)
   rotate_left
   ·rw [if_neg c7] at H
    exact absurd H (by simp)
   rw [if_pos c7] at H
   have c7b0:=decide_eq_true c7
   clear c7
   by_cases c8:((rd_T45 l0 x17_1).f0) = 1
   ·rw [if_pos c8] at H
    have c8b0:(((rd_T45 l0 x17_1).f0) == 1) = true:=beq_iff_eq.mpr c8
    have c8b1:(((rd_T45 l0 x17_1).f0) != 1) = false:=bne_eq_false_iff_eq.mpr c8
    clear c8
    by_cases c9:x6_1.length < 35184372088832
    rotate_left
    ·rw [if_neg c9] at H
     exact absurd H (by simp)
    rw [if_pos c9] at H
    have LMc9:=Aside0.mk c9
    clear c9
    obtain ⟨y238,hy238⟩:∃ y_:List Int,y_ = (x6_1 ++ [wrap32 ((rd_T45 l0 x17_1).f1)]):=⟨_,rfl⟩
    replace H:(impl_evaluated.l0 k1 l1 y238 l0 (l0.length:Int) (wrap64 (x17_1 + 1))) = some (r1,r2):=by first | (rw [hy238];exact H) | exact H
    have Ny238:=Aside0.mk hy238
    clear hy238
    have H':=Aside0.mk H
    clear H
    have p236:0 ≤ (x17_1:Int):=of_decide_eq_true q42_
    have q236:x17_1 < (l0.length:Int):=of_decide_eq_true q42_
    obtain ⟨ad236,e236,hx236_0,hx236_1,hx236_2⟩:=at_T45 HR0.out x17_1 p236 q236
    cases e236
    replace hx236_0:=(HB.out.cell (World.block_lt_of_cell? w _ hx236_0)).trans hx236_0
    replace hx236_1:=(HB.out.cell (World.block_lt_of_cell? w _ hx236_1)).trans hx236_1
    replace hx236_2:=(HB.out.cell (World.block_lt_of_cell? w _ hx236_2)).trans hx236_2
    replace p236:=eq_true p236
    replace q236:=eq_true q236
    go_wp2_with (first | ((with_reducible refine gate_dst (N:=8) rfl ?_);refine box_event ?hg (N:=8) ?hd (cs:=#[.int .i64 0,.int .i64 0,.string (⟨#[]⟩:ByteArray)]) (t:=45) ?hr ?_;(case hd => rfl);(case hg => rfl);(case hr => exact q62_);intro gb237 hg w10 hbox hb;have n0_:=Aside0.mk (Kd.R_below q37_ hb);have n1_:=Aside0.mk (below_step q20_ hb);have n2_:=Aside0.mk (hbox);have n3_:=Aside0.mk ((q10_:w.heap.size ≤ gb237));have n4_:=Aside0.mk ((q10_:w.heap.size ≤ gb237));clear HO_6;clear HB;have HO_6:=n0_;have HB:=n1_;have BK237:=n2_;have GW237:=n3_;have GE237:=n4_;clear n0_ n1_ n2_ n3_ n4_;clear hb hbox hg;have hcz11_0:w10.cell? ⟨gb237,0,none⟩ = some (.int .i64 0):=(blk_cell BK237.out 0).trans rfl;have hcz11_1:w10.cell? ⟨gb237,1,none⟩ = some (.int .i64 0):=(blk_cell BK237.out 1).trans rfl;have hcz11_2:w10.cell? ⟨gb237,2,none⟩ = some (.string (⟨#[]⟩:ByteArray)):=(blk_cell BK237.out 2).trans rfl;have hfz11_0:=blk_frozen BK237.out 0;have hfz11_1:=blk_frozen BK237.out 1;have hfz11_2:=blk_frozen BK237.out 2;obtain ⟨Ao12,co12,eo12⟩:=Kd.R_slice HO_6.out;subst eo12) | ((with_reducible refine gate_builtin (b:=.append) (xs:=#[.tmp 52,.tmp 56]) rfl ?_);at_builtin;refine Kd.R_append (Kd.int .i32) (w0:=w) w.heap.size rfl (.tmp 52) (.tmp 56) 50 21 (.int .i32 0) 4 rfl Try.underlying50 info21 rfl (by decide) (by omega) (.slice Ao12 x6_1.length co12) x6_1 (wrap32 ((rd_T45 l0 x17_1).f1)) [.int .i32 (wrap32 ((rd_T45 l0 x17_1).f1))] (fun _ => True) (fun _ => False) rfl (by first | (go_simp;done) | (go_simp;rfl)) ?aP (fun _ hk => hk.elim) ?aF ?aO ?aB ?aS ?aL ?_;(case aP => exact rfl);(case aB => exact q13_);(case aF => exact (fun _ _ => trivial));(case aO => exact q2_);(case aS => exact (below_size q13_));(case aL => have:=LMc9.out;omega);intro v239 w13 ho hb hg hat;rw [← Ny238.out] at ho;have n0_:=Aside0.mk (blk_grown (g:=gb237) (o:=.cells #[.int .i64 ((rd_T45 l0 x17_1).f0),.int .i64 ((rd_T45 l0 x17_1).f1),.string ((rd_T45 l0 x17_1).f2)] 45 (0,0)) q1_ hg (Kd.R_ne HO_6.out BK237.out (by decide)));have n1_:=Aside0.mk (hb);have n2_:=Aside0.mk (ho);clear BK237;clear HB;clear HO_6;have BK237:=n0_;have HB:=n1_;have HO240:=n2_;clear n0_ n1_ n2_;clear ho hb hg hat))
    go_roundg k1
    case measure => have:=HK1.out;omega
    case rel => exact ⟨(y238),(wrap64 (x17_1 + 1)),q25_,H',⟨by have:=HK1.out;omega⟩,⟨by (with_reducible repeat (first | apply Kd.R_alloc | apply Kd.R_drewN | apply Kd.R_drew));exact HO240.out⟩,⟨q13_⟩⟩
   rw [if_neg c8] at H
   have c8b0:(((rd_T45 l0 x17_1).f0) == 1) = false:=beq_eq_false_iff_ne.mpr c8
   have c8b1:(((rd_T45 l0 x17_1).f0) != 1) = true:=bne_iff_ne.mpr c8
   by_cases c14:((rd_T45 l0 x17_1).f0) ≤ 3
   ·rw [if_pos c14] at H
    have c14b0:=decide_eq_true c14
    clear c14
    replace H:=Option.bind_eq_some_iff.mp H
    obtain ⟨t241,A150,H⟩:=H
    have A15:=Aside0.mk A150
    clear A150
    by_cases c16:t241 < 0
    ·rw [if_pos c16] at H
     have c16b0:=decide_eq_true c16
     clear c16
     simp only [Option.some.injEq,Prod.mk.injEq] at H
     obtain ⟨rfl,rfl⟩:=H
     have p236:0 ≤ (x17_1:Int):=of_decide_eq_true q42_
     have q236:x17_1 < (l0.length:Int):=of_decide_eq_true q42_
     obtain ⟨ad236,e236,hx236_0,hx236_1,hx236_2⟩:=at_T45 HR0.out x17_1 p236 q236
     cases e236
     replace hx236_0:=(HB.out.cell (World.block_lt_of_cell? w _ hx236_0)).trans hx236_0
     replace hx236_1:=(HB.out.cell (World.block_lt_of_cell? w _ hx236_1)).trans hx236_1
     replace hx236_2:=(HB.out.cell (World.block_lt_of_cell? w _ hx236_2)).trans hx236_2
     replace p236:=eq_true p236
     replace q236:=eq_true q236
     go_wp2_with (first | ((with_reducible refine gate_dst (N:=8) rfl ?_);refine box_event ?hg (N:=8) ?hd (cs:=#[.int .i64 0,.int .i64 0,.string (⟨#[]⟩:ByteArray)]) (t:=45) ?hr ?_;(case hd => rfl);(case hg => rfl);(case hr => exact q62_);intro gb237 hg w17 hbox hb;have n0_:=Aside0.mk (Kd.R_below q37_ hb);have n1_:=Aside0.mk (below_step q20_ hb);have n2_:=Aside0.mk (hbox);have n3_:=Aside0.mk ((q10_:w.heap.size ≤ gb237));have n4_:=Aside0.mk ((q10_:w.heap.size ≤ gb237));clear HO_6;clear HB;have HO_6:=n0_;have HB:=n1_;have BK237:=n2_;have GW237:=n3_;have GE237:=n4_;clear n0_ n1_ n2_ n3_ n4_;clear hb hbox hg;have hcz18_0:w17.cell? ⟨gb237,0,none⟩ = some (.int .i64 0):=(blk_cell BK237.out 0).trans rfl;have hcz18_1:w17.cell? ⟨gb237,1,none⟩ = some (.int .i64 0):=(blk_cell BK237.out 1).trans rfl;have hcz18_2:w17.cell? ⟨gb237,2,none⟩ = some (.string (⟨#[]⟩:ByteArray)):=(blk_cell BK237.out 2).trans rfl;have hfz18_0:=blk_frozen BK237.out 0;have hfz18_1:=blk_frozen BK237.out 1;have hfz18_2:=blk_frozen BK237.out 2;obtain ⟨Ao19,co19,eo19⟩:=Kd.R_slice HO_6.out;subst eo19) | ((with_reducible refine (Go.Proofs.Ytpghjbikjmnnoaa.LibIy.idx_calls k1 _ _ l1 ((rd_T45 l0 x17_1).f2) gb237 t241 _ ?side1 ?side2 ?side3 ?side4 A15.out).mono ?_);(case side1 => exact Kd.C_below HR1.out q13_);(case side2 => exact HC1.out);(case side3 => exact q56_);(case side4 => exact q46_);rintro e w20 ⟨rfl,hb⟩;have n0_:=Aside0.mk (Kd.R_below q3_ hb);have n1_:=Aside0.mk (blk_below (g:=gb237) (o:=.cells #[.int .i64 ((rd_T45 l0 x17_1).f0),.int .i64 ((rd_T45 l0 x17_1).f1),.string ((rd_T45 l0 x17_1).f2)] 45 (0,0)) q1_ hb);have n2_:=Aside0.mk (below_step q13_ hb);clear HO_6;clear BK237;clear HB;have HO_6:=n0_;have BK237:=n1_;have HB:=n2_;clear n0_ n1_ n2_;(try clear hb)))
     go_ret2
     exact ⟨q21_,q13_⟩
    rw [if_neg c16] at H
    have c16b0:=decide_eq_false c16
    clear c16
    by_cases c21:0 ≤ t241
    rotate_left
    ·rw [if_neg c21] at H
     exact absurd H (by simp)
    rw [if_pos c21] at H
    have c21b0:=decide_eq_true c21
    clear c21
    by_cases c22:t241 < (l1.length:Int)
    rotate_left
    ·rw [if_neg c22] at H
     exact absurd H (by simp)
    rw [if_pos c22] at H
    have c22b0:=decide_eq_true c22
    clear c22
    by_cases c23:((rd_T45 l0 x17_1).f0) = 3
    ·rw [if_pos c23] at H
     have c23b0:(((rd_T45 l0 x17_1).f0) == 3) = true:=beq_iff_eq.mpr c23
     have c23b1:(((rd_T45 l0 x17_1).f0) != 3) = false:=bne_eq_false_iff_eq.mpr c23
     clear c23
     by_cases c24:x6_1.length < 35184372088832
     rotate_left
     ·rw [if_neg c24] at H
      exact absurd H (by simp)
     rw [if_pos c24] at H
     have LMc24:=Aside0.mk c24
     clear c24
     obtain ⟨y244,hy244⟩:∃ y_:List Int,y_ = (x6_1 ++ [wrap32 ((rd_T33 l1 t241).f1)]):=⟨_,rfl⟩
     replace H:(impl_evaluated.l0 k1 l1 y244 l0 (l0.length:Int) (wrap64 (x17_1 + 1))) = some (r1,r2):=by first | (rw [hy244];exact H) | exact H
     have Ny244:=Aside0.mk hy244
     clear hy244
     have H':=Aside0.mk H
     clear H
     have p236:0 ≤ (x17_1:Int):=of_decide_eq_true q42_
     have q236:x17_1 < (l0.length:Int):=of_decide_eq_true q42_
     obtain ⟨ad236,e236,hx236_0,hx236_1,hx236_2⟩:=at_T45 HR0.out x17_1 p236 q236
     cases e236
     replace hx236_0:=(HB.out.cell (World.block_lt_of_cell? w _ hx236_0)).trans hx236_0
     replace hx236_1:=(HB.out.cell (World.block_lt_of_cell? w _ hx236_1)).trans hx236_1
     replace hx236_2:=(HB.out.cell (World.block_lt_of_cell? w _ hx236_2)).trans hx236_2
     replace p236:=eq_true p236
     replace q236:=eq_true q236
     go_wp2_with (first | ((with_reducible refine gate_dst (N:=8) rfl ?_);refine box_event ?hg (N:=8) ?hd (cs:=#[.int .i64 0,.int .i64 0,.string (⟨#[]⟩:ByteArray)]) (t:=45) ?hr ?_;(case hd => rfl);(case hg => rfl);(case hr => exact q62_);intro gb237 hg w25 hbox hb;have n0_:=Aside0.mk (Kd.R_below q37_ hb);have n1_:=Aside0.mk (below_step q20_ hb);have n2_:=Aside0.mk (hbox);have n3_:=Aside0.mk ((q10_:w.heap.size ≤ gb237));have n4_:=Aside0.mk ((q10_:w.heap.size ≤ gb237));clear HO_6;clear HB;have HO_6:=n0_;have HB:=n1_;have BK237:=n2_;have GW237:=n3_;have GE237:=n4_;clear n0_ n1_ n2_ n3_ n4_;clear hb hbox hg;have hcz26_0:w25.cell? ⟨gb237,0,none⟩ = some (.int .i64 0):=(blk_cell BK237.out 0).trans rfl;have hcz26_1:w25.cell? ⟨gb237,1,none⟩ = some (.int .i64 0):=(blk_cell BK237.out 1).trans rfl;have hcz26_2:w25.cell? ⟨gb237,2,none⟩ = some (.string (⟨#[]⟩:ByteArray)):=(blk_cell BK237.out 2).trans rfl;have hfz26_0:=blk_frozen BK237.out 0;have hfz26_1:=blk_frozen BK237.out 1;have hfz26_2:=blk_frozen BK237.out 2;obtain ⟨Ao27,co27,eo27⟩:=Kd.R_slice HO_6.out;subst eo27) | ((with_reducible refine (Go.Proofs.Ytpghjbikjmnnoaa.LibIy.idx_calls k1 _ _ l1 ((rd_T45 l0 x17_1).f2) gb237 t241 _ ?side1 ?side2 ?side3 ?side4 A15.out).mono ?_);(case side1 => exact Kd.C_below HR1.out q13_);(case side2 => exact HC1.out);(case side3 => exact q56_);(case side4 => exact q46_);rintro e w28 ⟨rfl,hb⟩;have n0_:=Aside0.mk (Kd.R_below q3_ hb);have n1_:=Aside0.mk (blk_below (g:=gb237) (o:=.cells #[.int .i64 ((rd_T45 l0 x17_1).f0),.int .i64 ((rd_T45 l0 x17_1).f1),.string ((rd_T45 l0 x17_1).f2)] 45 (0,0)) q1_ hb);have n2_:=Aside0.mk (below_step q13_ hb);clear HO_6;clear BK237;clear HB;have HO_6:=n0_;have BK237:=n1_;have HB:=n2_;clear n0_ n1_ n2_;(try clear hb);have p242:0 ≤ (t241:Int):=of_decide_eq_true q42_;have q242:t241 < (l1.length:Int):=of_decide_eq_true q42_;obtain ⟨ad242,e242,hx242_0,hx242_1,hx242_2⟩:=at_T33 HR1.out t241 p242 q242;cases e242;replace hx242_0:=(HB.out.cell (World.block_lt_of_cell? w _ hx242_0)).trans hx242_0;replace hx242_1:=(HB.out.cell (World.block_lt_of_cell? w _ hx242_1)).trans hx242_1;replace hx242_2:=(HB.out.cell (World.block_lt_of_cell? w _ hx242_2)).trans hx242_2;replace p242:=eq_true p242;replace q242:=eq_true q242;have hcz29_0:w28.cell? ⟨gb237,0,none⟩ = some (.int .i64 ((rd_T45 l0 x17_1).f0)):=(blk_cell BK237.out 0).trans rfl;have hcz29_1:w28.cell? ⟨gb237,1,none⟩ = some (.int .i64 ((rd_T45 l0 x17_1).f1)):=(blk_cell BK237.out 1).trans rfl;have hcz29_2:w28.cell? ⟨gb237,2,none⟩ = some (.string ((rd_T45 l0 x17_1).f2)):=(blk_cell BK237.out 2).trans rfl;have hfz29_0:=blk_frozen BK237.out 0;have hfz29_1:=blk_frozen BK237.out 1;have hfz29_2:=blk_frozen BK237.out 2;have p243:0 ≤ (t241:Int):=of_decide_eq_true q42_;have q243:t241 < (l1.length:Int):=of_decide_eq_true q42_;obtain ⟨ad243,e243,hx243_0,hx243_1,hx243_2⟩:=at_T33 HR1.out t241 p243 q243;obtain rfl:ad242 = ad243:=(by injection e243);replace hx243_0:=(HB.out.cell (World.block_lt_of_cell? w _ hx243_0)).trans hx243_0;replace hx243_1:=(HB.out.cell (World.block_lt_of_cell? w _ hx243_1)).trans hx243_1;replace hx243_2:=(HB.out.cell (World.block_lt_of_cell? w _ hx243_2)).trans hx243_2;replace p243:=eq_true p243;replace q243:=eq_true q243) | ((with_reducible refine gate_builtin (b:=.append) (xs:=#[.tmp 80,.tmp 83]) rfl ?_);at_builtin;refine Kd.R_append (Kd.int .i32) (w0:=w) w.heap.size rfl (.tmp 80) (.tmp 83) 50 21 (.int .i32 0) 4 rfl Try.underlying50 info21 rfl (by decide) (by omega) (.slice Ao27 x6_1.length co27) x6_1 (wrap32 ((rd_T33 l1 t241).f1)) [.int .i32 (wrap32 ((rd_T33 l1 t241).f1))] (fun _ => True) (fun _ => False) rfl rfl ?aP (fun _ hk => hk.elim) ?aF ?aO ?aB ?aS ?aL ?_;(case aP => exact rfl);(case aB => exact q13_);(case aF => exact (fun _ _ => trivial));(case aO => exact q37_);(case aS => exact (below_size q13_));(case aL => have:=LMc24.out;omega);intro v245 w30 ho hb hg hat;rw [← Ny244.out] at ho;have n0_:=Aside0.mk (blk_grown (g:=gb237) (o:=.cells #[.int .i64 ((rd_T45 l0 x17_1).f0),.int .i64 ((rd_T45 l0 x17_1).f1),.string ((rd_T45 l0 x17_1).f2)] 45 (0,0)) q23_ hg (Kd.R_ne HO_6.out BK237.out (by decide)));have n1_:=Aside0.mk (hb);have n2_:=Aside0.mk (ho);clear BK237;clear HB;clear HO_6;have BK237:=n0_;have HB:=n1_;have HO246:=n2_;clear n0_ n1_ n2_;clear ho hb hg hat))
     go_roundg k1
     case measure => have:=HK1.out;omega
     case rel => exact ⟨(y244),(wrap64 (x17_1 + 1)),q25_,H',⟨by have:=HK1.out;omega⟩,⟨by (with_reducible repeat (first | apply Kd.R_alloc | apply Kd.R_drewN | apply Kd.R_drew));exact HO246.out⟩,⟨q13_⟩⟩
    rw [if_neg c23] at H
    have c23b0:(((rd_T45 l0 x17_1).f0) == 3) = false:=beq_eq_false_iff_ne.mpr c23
    have c23b1:(((rd_T45 l0 x17_1).f0) != 3) = true:=bne_iff_ne.mpr c23
    by_cases c31:x6_1.length < 35184372088832
    rotate_left
    ·rw [if_neg c31] at H
     exact absurd H (by simp)
    rw [if_pos c31] at H
    have LMc31:=Aside0.mk c31
    clear c31
    obtain ⟨y247,hy247⟩:∃ y_:List Int,y_ = (x6_1 ++ [wrap32 ((rd_T33 l1 t241).f2)]):=⟨_,rfl⟩
    replace H:(impl_evaluated.l0 k1 l1 y247 l0 (l0.length:Int) (wrap64 (x17_1 + 1))) = some (r1,r2):=by first | (rw [hy247];exact H) | exact H
    have Ny247:=Aside0.mk hy247
    clear hy247
    have H':=Aside0.mk H
    clear H
    have p236:0 ≤ (x17_1:Int):=of_decide_eq_true q42_
    have q236:x17_1 < (l0.length:Int):=of_decide_eq_true q42_
    obtain ⟨ad236,e236,hx236_0,hx236_1,hx236_2⟩:=at_T45 HR0.out x17_1 p236 q236
    cases e236
    replace hx236_0:=(HB.out.cell (World.block_lt_of_cell? w _ hx236_0)).trans hx236_0
    replace hx236_1:=(HB.out.cell (World.block_lt_of_cell? w _ hx236_1)).trans hx236_1
    replace hx236_2:=(HB.out.cell (World.block_lt_of_cell? w _ hx236_2)).trans hx236_2
    replace p236:=eq_true p236
    replace q236:=eq_true q236
    go_wp2_with (first | ((with_reducible refine gate_dst (N:=8) rfl ?_);refine box_event ?hg (N:=8) ?hd (cs:=#[.int .i64 0,.int .i64 0,.string (⟨#[]⟩:ByteArray)]) (t:=45) ?hr ?_;(case hd => rfl);(case hg => rfl);(case hr => exact q62_);intro gb237 hg w32 hbox hb;have n0_:=Aside0.mk (Kd.R_below q37_ hb);have n1_:=Aside0.mk (below_step q20_ hb);have n2_:=Aside0.mk (hbox);have n3_:=Aside0.mk ((q10_:w.heap.size ≤ gb237));have n4_:=Aside0.mk ((q10_:w.heap.size ≤ gb237));clear HO_6;clear HB;have HO_6:=n0_;have HB:=n1_;have BK237:=n2_;have GW237:=n3_;have GE237:=n4_;clear n0_ n1_ n2_ n3_ n4_;clear hb hbox hg;have hcz33_0:w32.cell? ⟨gb237,0,none⟩ = some (.int .i64 0):=(blk_cell BK237.out 0).trans rfl;have hcz33_1:w32.cell? ⟨gb237,1,none⟩ = some (.int .i64 0):=(blk_cell BK237.out 1).trans rfl;have hcz33_2:w32.cell? ⟨gb237,2,none⟩ = some (.string (⟨#[]⟩:ByteArray)):=(blk_cell BK237.out 2).trans rfl;have hfz33_0:=blk_frozen BK237.out 0;have hfz33_1:=blk_frozen BK237.out 1;have hfz33_2:=blk_frozen BK237.out 2;obtain ⟨Ao34,co34,eo34⟩:=Kd.R_slice HO_6.out;subst eo34) | ((with_reducible refine (Go.Proofs.Ytpghjbikjmnnoaa.LibIy.idx_calls k1 _ _ l1 ((rd_T45 l0 x17_1).f2) gb237 t241 _ ?side1 ?side2 ?side3 ?side4 A15.out).mono ?_);(case side1 => exact Kd.C_below HR1.out q13_);(case side2 => exact HC1.out);(case side3 => exact q56_);(case side4 => exact q46_);rintro e w35 ⟨rfl,hb⟩;have n0_:=Aside0.mk (Kd.R_below q3_ hb);have n1_:=Aside0.mk (blk_below (g:=gb237) (o:=.cells #[.int .i64 ((rd_T45 l0 x17_1).f0),.int .i64 ((rd_T45 l0 x17_1).f1),.string ((rd_T45 l0 x17_1).f2)] 45 (0,0)) q1_ hb);have n2_:=Aside0.mk (below_step q13_ hb);clear HO_6;clear BK237;clear HB;have HO_6:=n0_;have BK237:=n1_;have HB:=n2_;clear n0_ n1_ n2_;(try clear hb);have p242:0 ≤ (t241:Int):=of_decide_eq_true q42_;have q242:t241 < (l1.length:Int):=of_decide_eq_true q42_;obtain ⟨ad242,e242,hx242_0,hx242_1,hx242_2⟩:=at_T33 HR1.out t241 p242 q242;cases e242;replace hx242_0:=(HB.out.cell (World.block_lt_of_cell? w _ hx242_0)).trans hx242_0;replace hx242_1:=(HB.out.cell (World.block_lt_of_cell? w _ hx242_1)).trans hx242_1;replace hx242_2:=(HB.out.cell (World.block_lt_of_cell? w _ hx242_2)).trans hx242_2;replace p242:=eq_true p242;replace q242:=eq_true q242;have hcz36_0:w35.cell? ⟨gb237,0,none⟩ = some (.int .i64 ((rd_T45 l0 x17_1).f0)):=(blk_cell BK237.out 0).trans rfl;have hcz36_1:w35.cell? ⟨gb237,1,none⟩ = some (.int .i64 ((rd_T45 l0 x17_1).f1)):=(blk_cell BK237.out 1).trans rfl;have hcz36_2:w35.cell? ⟨gb237,2,none⟩ = some (.string ((rd_T45 l0 x17_1).f2)):=(blk_cell BK237.out 2).trans rfl;have hfz36_0:=blk_frozen BK237.out 0;have hfz36_1:=blk_frozen BK237.out 1;have hfz36_2:=blk_frozen BK237.out 2) | ((with_reducible refine gate_builtin (b:=.append) (xs:=#[.tmp 80,.tmp 83]) rfl ?_);at_builtin;refine Kd.R_append (Kd.int .i32) (w0:=w) w.heap.size rfl (.tmp 80) (.tmp 83) 50 21 (.int .i32 0) 4 rfl Try.underlying50 info21 rfl (by decide) (by omega) (.slice Ao34 x6_1.length co34) x6_1 (wrap32 ((rd_T33 l1 t241).f2)) [.int .i32 (wrap32 ((rd_T33 l1 t241).f2))] (fun _ => True) (fun _ => False) rfl rfl ?aP (fun _ hk => hk.elim) ?aF ?aO ?aB ?aS ?aL ?_;(case aP => exact rfl);(case aB => exact q13_);(case aF => exact (fun _ _ => trivial));(case aO => exact q37_);(case aS => exact (below_size q13_));(case aL => have:=LMc31.out;omega);intro v248 w37 ho hb hg hat;rw [← Ny247.out] at ho;have n0_:=Aside0.mk (blk_grown (g:=gb237) (o:=.cells #[.int .i64 ((rd_T45 l0 x17_1).f0),.int .i64 ((rd_T45 l0 x17_1).f1),.string ((rd_T45 l0 x17_1).f2)] 45 (0,0)) q23_ hg (Kd.R_ne HO_6.out BK237.out (by decide)));have n1_:=Aside0.mk (hb);have n2_:=Aside0.mk (ho);clear BK237;clear HB;clear HO_6;have BK237:=n0_;have HB:=n1_;have HO249:=n2_;clear n0_ n1_ n2_;clear ho hb hg hat))
    go_roundg k1
    case measure => have:=HK1.out;omega
    case rel => exact ⟨(y247),(wrap64 (x17_1 + 1)),q25_,H',⟨by have:=HK1.out;omega⟩,⟨by (with_reducible repeat (first | apply Kd.R_alloc | apply Kd.R_drewN | apply Kd.R_drew));exact HO249.out⟩,⟨q13_⟩⟩
   rw [if_neg c14] at H
   have c14b0:=decide_eq_false c14
   clear c14
   by_cases c38:((rd_T45 l0 x17_1).f0) ≤ 7
   ·rw [if_pos c38] at H
    have c38b0:=decide_eq_true c38
    clear c38
    obtain ⟨ji39,hji39⟩:∃ j_:Int,(wrap64 ((x6_1.length:Int) - 1)) = j_:=⟨_,rfl⟩
    (first | rewrite [hji39] at H | simp only [hji39] at H)
    have hji39w:(IntKind.i64.wrap ((x6_1.length:Int) - 1)) = ji39:=(i64_w _).trans hji39
    by_cases c40:0 ≤ (ji39)
    rotate_left
    ·rw [if_neg c40] at H
     exact absurd H (by simp)
    rw [if_pos c40] at H
    have c40b0:=decide_eq_true c40
    clear c40
    by_cases c41:(ji39) < (x6_1.length:Int)
    rotate_left
    ·rw [if_neg c41] at H
     exact absurd H (by simp)
    rw [if_pos c41] at H
    have c41b0:=decide_eq_true c41
    clear c41
    replace H:=Option.bind_eq_some_iff.mp H
    obtain ⟨t251,A420,H⟩:=H
    have A42:=Aside0.mk A420
    clear A420
    obtain ⟨y252,hy252⟩:∃ y_:List Int,y_ = (x6_1.set ((ji39):Int).toNat t251):=⟨_,rfl⟩
    replace H:(impl_evaluated.l0 k1 l1 y252 l0 (l0.length:Int) (wrap64 (x17_1 + 1))) = some (r1,r2):=by first | (rw [hy252];exact H) | exact H
    have Ny252:=Aside0.mk hy252
    clear hy252
    have H':=Aside0.mk H
    clear H
    have p236:0 ≤ (x17_1:Int):=of_decide_eq_true q42_
    have q236:x17_1 < (l0.length:Int):=of_decide_eq_true q42_
    obtain ⟨ad236,e236,hx236_0,hx236_1,hx236_2⟩:=at_T45 HR0.out x17_1 p236 q236
    cases e236
    replace hx236_0:=(HB.out.cell (World.block_lt_of_cell? w _ hx236_0)).trans hx236_0
    replace hx236_1:=(HB.out.cell (World.block_lt_of_cell? w _ hx236_1)).trans hx236_1
    replace hx236_2:=(HB.out.cell (World.block_lt_of_cell? w _ hx236_2)).trans hx236_2
    replace p236:=eq_true p236
    replace q236:=eq_true q236
    try go_wp2_with (first | ((with_reducible refine gate_dst (N:=8) rfl ?_);refine box_event ?hg (N:=8) ?hd (cs:=#[.int .i64 0,.int .i64 0,.string (⟨#[]⟩:ByteArray)]) (t:=45) ?hr ?_;(case hd => rfl);(case hg => rfl);(case hr => exact q62_);intro gb237 hg w44 hbox hb;have n0_:=Aside0.mk (Kd.R_below q37_ hb);have n1_:=Aside0.mk (below_step q20_ hb);have n2_:=Aside0.mk (hbox);have n3_:=Aside0.mk ((q10_:w.heap.size ≤ gb237));have n4_:=Aside0.mk ((q10_:w.heap.size ≤ gb237));clear HO_6;clear HB;have HO_6:=n0_;have HB:=n1_;have BK237:=n2_;have GW237:=n3_;have GE237:=n4_;clear n0_ n1_ n2_ n3_ n4_;clear hb hbox hg;have hcz45_0:w44.cell? ⟨gb237,0,none⟩ = some (.int .i64 0):=(blk_cell BK237.out 0).trans rfl;have hcz45_1:w44.cell? ⟨gb237,1,none⟩ = some (.int .i64 0):=(blk_cell BK237.out 1).trans rfl;have hcz45_2:w44.cell? ⟨gb237,2,none⟩ = some (.string (⟨#[]⟩:ByteArray)):=(blk_cell BK237.out 2).trans rfl;have hfz45_0:=blk_frozen BK237.out 0;have hfz45_1:=blk_frozen BK237.out 1;have hfz45_2:=blk_frozen BK237.out 2;obtain ⟨Ao46,co46,eo46⟩:=Kd.R_slice HO_6.out;subst eo46))
    have n0_:Aside0 (Kd.R (Kd.int .i32) 21 (((w44.setCell ⟨gb237,0,none⟩ (.int .i64 ((rd_T45 l0 x17_1).f0))).setCell ⟨gb237,1,none⟩ (.int .i64 ((rd_T45 l0 x17_1).f1))).setCell ⟨gb237,2,none⟩ (.string ((rd_T45 l0 x17_1).f2))) w.heap.size (fun _ => True) (.slice Ao46 x6_1.length co46) x6_1):=⟨q2_⟩
    have n1_:Aside0 ((((w44.setCell ⟨gb237,0,none⟩ (.int .i64 ((rd_T45 l0 x17_1).f0))).setCell ⟨gb237,1,none⟩ (.int .i64 ((rd_T45 l0 x17_1).f1))).setCell ⟨gb237,2,none⟩ (.string ((rd_T45 l0 x17_1).f2))).heap[gb237]? = some (.cells #[.int .i64 ((rd_T45 l0 x17_1).f0),.int .i64 ((rd_T45 l0 x17_1).f1),.string ((rd_T45 l0 x17_1).f2)] 45 (0,0))):=⟨q1_⟩
    have n2_:Aside0 (Below w.heap.size w (((w44.setCell ⟨gb237,0,none⟩ (.int .i64 ((rd_T45 l0 x17_1).f0))).setCell ⟨gb237,1,none⟩ (.int .i64 ((rd_T45 l0 x17_1).f1))).setCell ⟨gb237,2,none⟩ (.string ((rd_T45 l0 x17_1).f2)))):=⟨q13_⟩
    (try clear HO_6)
    (try clear BK237)
    (try clear HB)
    generalize (((w44.setCell ⟨gb237,0,none⟩ (.int .i64 ((rd_T45 l0 x17_1).f0))).setCell ⟨gb237,1,none⟩ (.int .i64 ((rd_T45 l0 x17_1).f1))).setCell ⟨gb237,2,none⟩ (.string ((rd_T45 l0 x17_1).f2))) = w47 at n0_ n1_ n2_ ⊢
    have HO_6:=n0_
    have BK237:=n1_
    have HB:=n2_
    clear n0_ n1_ n2_
    have n0_:=Aside0.mk (Kd.R_drew HO_6.out)
    have n1_:=Aside0.mk (blk_drew BK237.out)
    have n2_:=Aside0.mk (below_drew1 HB.out)
    clear HO_6
    clear BK237
    clear HB
    have HO_6:=n0_
    have BK237:=n1_
    have HB:=n2_
    clear n0_ n1_ n2_
    have p250:0 ≤ ((ji39):Int):=of_decide_eq_true q42_
    have q250:(ji39) < (x6_1.length:Int):=of_decide_eq_true q42_
    obtain ⟨ad250,e250,hx250_0⟩:=Kd.at_int (Kd.R_reads' HO_6.out).2.2 (ji39) p250 q250
    cases e250
    replace p250:=eq_true p250
    replace q250:=eq_true q250
    refine start_ (n:=13) (S:=fun w' => w'.cell? ⟨gb237,0,none⟩ = some (.int .i64 ((rd_T45 l0 x17_1).f0)) ∧ w'.cell? ⟨gb237,1,none⟩ = some (.int .i64 ((rd_T45 l0 x17_1).f1)) ∧ w'.cell? ⟨gb237,2,none⟩ = some (.string ((rd_T45 l0 x17_1).f2)) ∧ w'.cell? (ad250.add ((ji39)).toNat) = some (.int .i32 (rd x6_1 (ji39)))) (ds:=[12]) #[false,false,false,false,false,false,false,false,false,false,false,false,false] (by kernel_rfl) rfl rfl ⟨(blk_cell BK237.out 0).trans rfl,(blk_cell BK237.out 1).trans rfl,(blk_cell BK237.out 2).trans rfl,hx250_0⟩ (fun hHeld => ?_);refine with_tabW impl_evaluated.tab21 impl_evaluated.bits21 (fun HT_ HW_ => ?_)
    generalize w47.drew = w48 at HO_6 BK237 HB hx250_0 hHeld ⊢
    refine pure_ (i:=0) (N:=some 89) (v:=?_) (a':=?_) #[true,false,false,false,false,false,false,false,false,false,false,false,false] rfl rfl (any_of HT_.out (by kernel_rfl)) (fun _ _ _ h => h) (Or.inl ⟨by rfl,?_⟩) ?_ ?_
    rotate_left
    ·intro w'
     go_simp
     with_reducible rfl
    rotate_left
    ·simp only [Act.put,List.setIfInBounds_toArray,List.set_cons_zero,List.set_cons_succ,i64_w,i32_w]
     rfl
    refine pure_ (i:=1) (N:=some 90) (v:=?_) (a':=?_) #[true,true,false,false,false,false,false,false,false,false,false,false,false] rfl rfl (any_of HT_.out (by kernel_rfl)) (fun _ _ _ h => h) (Or.inl ⟨by rfl,?_⟩) ?_ ?_
    rotate_left
    ·intro w'
     go_simp
     with_reducible rfl
    rotate_left
    ·simp only [Act.put,List.setIfInBounds_toArray,List.set_cons_zero,List.set_cons_succ,i64_w,i32_w]
     rfl
    refine pure_ (i:=2) (N:=some 91) (v:=?_) (a':=?_) #[true,true,true,false,false,false,false,false,false,false,false,false,false] rfl rfl (any_of HT_.out (by kernel_rfl)) (fun _ _ _ h => h) (Or.inl ⟨by rfl,?_⟩) ?_ ?_
    rotate_left
    ·intro w'
     go_simp
     with_reducible rfl
    rotate_left
    ·simp only [Act.put,List.setIfInBounds_toArray,List.set_cons_zero,List.set_cons_succ,i64_w,i32_w]
     rfl
    refine pure_ (i:=3) (N:=some 92) (v:=?_) (a':=?_) #[true,true,true,true,false,false,false,false,false,false,false,false,false] rfl rfl (any_of HT_.out (by kernel_rfl)) (fun _ _ _ h => h) (Or.inl ⟨by rfl,?_⟩) ?_ ?_
    rotate_left
    ·intro w'
     go_simp
     with_reducible rfl
    rotate_left
    ·simp only [Act.put,List.setIfInBounds_toArray,List.set_cons_zero,List.set_cons_succ,i64_w,i32_w]
     rfl
    refine pure_ (i:=5) (N:=some 94) (v:=?_) (a':=?_) #[true,true,true,true,false,true,false,false,false,false,false,false,false] rfl rfl (any_of HT_.out (by kernel_rfl)) (fun _ _ _ h => h) (Or.inl ⟨by rfl,?_⟩) ?_ ?_
    rotate_left
    ·intro w'
     go_simp
     with_reducible rfl
    rotate_left
    ·simp only [Act.put,List.setIfInBounds_toArray,List.set_cons_zero,List.set_cons_succ,i64_w,i32_w]
     rfl
    refine pure_ (i:=6) (N:=some 95) (v:=?_) (a':=?_) #[true,true,true,true,false,true,true,false,false,false,false,false,false] rfl rfl (any_of HT_.out (by kernel_rfl)) (fun _ _ _ h => h) (Or.inl ⟨by rfl,?_⟩) ?_ ?_
    rotate_left
    ·intro w'
     go_simp
     with_reducible rfl
    rotate_left
    ·simp only [Act.put,List.setIfInBounds_toArray,List.set_cons_zero,List.set_cons_succ,i64_w,i32_w]
     rfl
    refine pure_ (i:=7) (N:=some 96) (v:=?_) (a':=?_) #[true,true,true,true,false,true,true,true,false,false,false,false,false] rfl rfl (any_of HT_.out (by kernel_rfl)) (fun _ _ _ h => h) (Or.inl ⟨by rfl,?_⟩) ?_ ?_
    rotate_left
    ·intro w'
     go_simp
     with_reducible rfl
    rotate_left
    ·simp only [Act.put,List.setIfInBounds_toArray,List.set_cons_zero,List.set_cons_succ,i64_w,i32_w]
     rfl
    refine pure_ (i:=8) (N:=some 97) (v:=?_) (a':=?_) #[true,true,true,true,false,true,true,true,true,false,false,false,false] rfl rfl (any_of HT_.out (by kernel_rfl)) (fun _ _ _ h => h) (Or.inl ⟨by rfl,?_⟩) ?_ ?_
    rotate_left
    ·intro w'
     go_simp
     with_reducible rfl
    rotate_left
    ·simp only [Act.put,List.setIfInBounds_toArray,List.set_cons_zero,List.set_cons_succ,i64_w,i32_w]
     rfl
    refine take_ (i:=4) (N:=some 93) (v:=?_) (a':=?_) #[true,true,true,true,true,true,true,true,true,false,false,false,false] rfl rfl (take_ofW HT_.out HW_.out (by kernel_rfl)) (fun _ _ _ h => h) (Or.inl ⟨by rfl,?_⟩) hHeld ?_ ?_
    rotate_left
    ·rintro w' ⟨s0,s1,s2,s3⟩
     go_simp
     with_reducible rfl
    rotate_left
    ·simp only [Act.put,List.setIfInBounds_toArray,List.set_cons_zero,List.set_cons_succ,i64_w,i32_w]
     rfl
    refine take_ (i:=9) (N:=some 98) (v:=?_) (a':=?_) #[true,true,true,true,true,true,true,true,true,true,false,false,false] rfl rfl (take_ofW HT_.out HW_.out (by kernel_rfl)) (fun _ _ _ h => h) (Or.inl ⟨by rfl,?_⟩) hHeld ?_ ?_
    rotate_left
    ·rintro w' ⟨s0,s1,s2,s3⟩
     go_simp
     with_reducible rfl
    rotate_left
    ·simp only [Act.put,List.setIfInBounds_toArray,List.set_cons_zero,List.set_cons_succ,i64_w,i32_w]
     rfl
    refine one_ (i:=10) (N:=some 99) #[true,true,true,true,true,true,true,true,true,true,true,false,false] rfl rfl (one_of HT_.out (by kernel_rfl)) (by decide) (fun K hK => ?_)
    refine goes_ Try.func25 (by kernel_rfl) rfl #[.int .i64 ((rd_T45 l0 x17_1).f0),.int .i32 (rd x6_1 (ji39))] (by rfl) rfl rfl (by (try simp only [List.map_toArray,List.map_cons,List.map_nil]);first | done | (simp only [hji39];rfl) | rfl | (simp only [List.length_drop,List.length_take];rfl)) ?_
    with_reducible refine (impl_signed.calls ((rd_T45 l0 x17_1).f0) (rd x6_1 (ji39)) t251 _ A42.out).mono ?_
    rintro e w' ⟨rfl,⟨nd,rfl⟩⟩
    refine ⟨_,rfl,?_⟩
    have p43:0 ≤ ((ji39):Int):=of_decide_eq_true q42_
    have q43:((ji39):Int) < ((x6_1.length:Int):Int):=of_decide_eq_true q42_
    obtain ⟨go43,co43,eo43,gb43,gl43,cl43,HG43⟩:=Kd.R_form HO_6.out (by omega)
    (first | cases eo43 | (injection eo43 with ea_ en_ ec_;(first | subst ea_ | (injection ea_ with ea_;subst ea_));subst ec_;clear en_))
    have GB43:=Aside0.mk gb43
    have GG43:=Aside0.mk HG43
    clear gb43 gl43 HG43
    (first | simp only [add_plain] at hx250_0 | skip)
    obtain ⟨hx43_0,hf43_0⟩:=Kd.R_celln 0 HO_6.out ((ji39):Int) p43 q43
    replace p43:=eq_true p43
    replace q43:=eq_true q43
    have HP49:=Kd.R_putn HO_6.out ((ji39):Int) t251
    rw [← Ny252.out] at HP49
    have HQ49:=Aside0.mk HP49
    clear HP49
    refine hK.out _ _ ⟨(blk_cell BK237.out 0).trans rfl,(blk_cell BK237.out 1).trans rfl,(blk_cell BK237.out 2).trans rfl,hHeld.2.2.2⟩ (fun hHeld => ?_)
    clear hK K
    refine norm_ (a':=?_) ?_ ?_
    rotate_left
    ·show Act.put _ (some 99) _ = _
     simp only [Act.put,List.setIfInBounds_toArray,List.set_cons_zero,List.set_cons_succ,i64_w,i32_w]
     rfl
    refine pure_ (i:=11) (N:=some 100) (v:=?_) (a':=?_) #[true,true,true,true,true,true,true,true,true,true,true,true,false] rfl rfl (any_of HT_.out (by kernel_rfl)) (fun _ _ _ h => h) (Or.inl ⟨by rfl,?_⟩) ?_ ?_
    rotate_left
    ·intro w'
     go_simp
     with_reducible rfl
    rotate_left
    ·simp only [Act.put,List.setIfInBounds_toArray,List.set_cons_zero,List.set_cons_succ,i64_w,i32_w]
     rfl
    refine last_ (i:=12) (N:=none) #[true,true,true,true,true,true,true,true,true,true,true,true,true] rfl rfl (one_of HT_.out (by kernel_rfl)) (by decide) (fun K hK => ?_)
    refine skip_ (w1:=?_) (by rfl) rfl ?_ ?_
    rotate_left
    ·go_simp
     rfl
    refine hK.out _ _ ?_
    clear hK K
    refine done_ (done_of HT_.out (by kernel_rfl)) ?_
    try go_wp2
    go_roundg k1
    case measure => have:=HK1.out;omega
    case rel => exact ⟨(y252),(wrap64 (x17_1 + 1)),q25_,(by first | with_reducible exact H' | (have H2_:=H';simp only [← hji39] at H2_ ⊢;with_reducible exact H2_) | exact H'),⟨by have:=HK1.out;omega⟩,⟨by (with_reducible repeat (first | apply Kd.R_alloc | apply Kd.R_drewN | apply Kd.R_drew));exact HQ49.out⟩,⟨by repeat (first | (with_reducible first | exact HB.out | apply below_alloc | apply pw_below_drewN | apply below_drew1 | refine below_set ?_ GB43.out | refine below_set ?_ GE237.out) | exact HB.out)⟩⟩
   rw [if_neg c38] at H
   have c38b0:=decide_eq_false c38
   clear c38
   obtain ⟨ji50,hji50⟩:∃ j_:Int,(wrap64 ((x6_1.length:Int) - 2)) = j_:=⟨_,rfl⟩
   (first | rewrite [hji50] at H | simp only [hji50] at H)
   have hji50w:(IntKind.i64.wrap ((x6_1.length:Int) - 2)) = ji50:=(i64_w _).trans hji50
   by_cases c51:0 ≤ (ji50)
   rotate_left
   ·rw [if_neg c51] at H
    exact absurd H (by simp)
   rw [if_pos c51] at H
   have c51b0:=decide_eq_true c51
   clear c51
   by_cases c52:(ji50) < (x6_1.length:Int)
   rotate_left
   ·rw [if_neg c52] at H
    exact absurd H (by simp)
   rw [if_pos c52] at H
   have c52b0:=decide_eq_true c52
   clear c52
   obtain ⟨ji53,hji53⟩:∃ j_:Int,(wrap64 ((x6_1.length:Int) - 1)) = j_:=⟨_,rfl⟩
   (first | rewrite [hji53] at H | simp only [hji53] at H)
   have hji53w:(IntKind.i64.wrap ((x6_1.length:Int) - 1)) = ji53:=(i64_w _).trans hji53
   by_cases c54:0 ≤ (ji53)
   rotate_left
   ·rw [if_neg c54] at H
    exact absurd H (by simp)
   rw [if_pos c54] at H
   have c54b0:=decide_eq_true c54
   clear c54
   by_cases c55:(ji53) < (x6_1.length:Int)
   rotate_left
   ·rw [if_neg c55] at H
    exact absurd H (by simp)
   rw [if_pos c55] at H
   have c55b0:=decide_eq_true c55
   clear c55
   replace H:=Option.bind_eq_some_iff.mp H
   obtain ⟨⟨t255,t256⟩,A560,H⟩:=H
   try dsimp -simprocs -eta only at H
   have A56:=Aside0.mk A560
   clear A560
   by_cases c57:t256 = true
   ·subst c57
    rewrite [if_pos rfl] at H
    by_cases c58:(ji50) ≤ (x6_1.length:Int)
    rotate_left
    ·rw [if_neg c58] at H
     exact absurd H (by simp)
    rw [if_pos c58] at H
    have c58b0:=eq_true c58
    have c58b1:=decide_eq_true c58
    clear c58
    obtain ⟨y257,hy257⟩:∃ y_:List Int,y_ = (x6_1.take ((ji50):Int).toNat):=⟨_,rfl⟩
    replace H:(if y257.length < 35184372088832 then (impl_evaluated.l0 k1 l1 (y257 ++ [t255]) l0 (l0.length:Int) (wrap64 (x17_1 + 1))) else (none)) = some (r1,r2):=by first | (rw [hy257];exact H) | exact H
    have Ny257:=Aside0.mk hy257
    clear hy257
    by_cases c59:y257.length < 35184372088832
    rotate_left
    ·rw [if_neg c59] at H
     exact absurd H (by simp)
    rw [if_pos c59] at H
    have LMc59:=Aside0.mk c59
    clear c59
    obtain ⟨y260,hy260⟩:∃ y_:List Int,y_ = (y257 ++ [t255]):=⟨_,rfl⟩
    replace H:(impl_evaluated.l0 k1 l1 y260 l0 (l0.length:Int) (wrap64 (x17_1 + 1))) = some (r1,r2):=by first | (rw [hy260];exact H) | exact H
    have Ny260:=Aside0.mk hy260
    clear hy260
    have H':=Aside0.mk H
    clear H
    have p236:0 ≤ (x17_1:Int):=of_decide_eq_true q42_
    have q236:x17_1 < (l0.length:Int):=of_decide_eq_true q42_
    obtain ⟨ad236,e236,hx236_0,hx236_1,hx236_2⟩:=at_T45 HR0.out x17_1 p236 q236
    cases e236
    replace hx236_0:=(HB.out.cell (World.block_lt_of_cell? w _ hx236_0)).trans hx236_0
    replace hx236_1:=(HB.out.cell (World.block_lt_of_cell? w _ hx236_1)).trans hx236_1
    replace hx236_2:=(HB.out.cell (World.block_lt_of_cell? w _ hx236_2)).trans hx236_2
    replace p236:=eq_true p236
    replace q236:=eq_true q236
    try go_wp2_with (first | ((with_reducible refine gate_dst (N:=8) rfl ?_);refine box_event ?hg (N:=8) ?hd (cs:=#[.int .i64 0,.int .i64 0,.string (⟨#[]⟩:ByteArray)]) (t:=45) ?hr ?_;(case hd => rfl);(case hg => rfl);(case hr => exact q62_);intro gb237 hg w60 hbox hb;have n0_:=Aside0.mk (Kd.R_below q37_ hb);have n1_:=Aside0.mk (below_step q20_ hb);have n2_:=Aside0.mk (hbox);have n3_:=Aside0.mk ((q10_:w.heap.size ≤ gb237));have n4_:=Aside0.mk ((q10_:w.heap.size ≤ gb237));clear HO_6;clear HB;have HO_6:=n0_;have HB:=n1_;have BK237:=n2_;have GW237:=n3_;have GE237:=n4_;clear n0_ n1_ n2_ n3_ n4_;clear hb hbox hg;have hcz61_0:w60.cell? ⟨gb237,0,none⟩ = some (.int .i64 0):=(blk_cell BK237.out 0).trans rfl;have hcz61_1:w60.cell? ⟨gb237,1,none⟩ = some (.int .i64 0):=(blk_cell BK237.out 1).trans rfl;have hcz61_2:w60.cell? ⟨gb237,2,none⟩ = some (.string (⟨#[]⟩:ByteArray)):=(blk_cell BK237.out 2).trans rfl;have hfz61_0:=blk_frozen BK237.out 0;have hfz61_1:=blk_frozen BK237.out 1;have hfz61_2:=blk_frozen BK237.out 2;obtain ⟨Ao62,co62,eo62⟩:=Kd.R_slice HO_6.out;subst eo62))
    have n0_:Aside0 (Kd.R (Kd.int .i32) 21 (((w60.setCell ⟨gb237,0,none⟩ (.int .i64 ((rd_T45 l0 x17_1).f0))).setCell ⟨gb237,1,none⟩ (.int .i64 ((rd_T45 l0 x17_1).f1))).setCell ⟨gb237,2,none⟩ (.string ((rd_T45 l0 x17_1).f2))) w.heap.size (fun _ => True) (.slice Ao62 x6_1.length co62) x6_1):=⟨q2_⟩
    have n1_:Aside0 ((((w60.setCell ⟨gb237,0,none⟩ (.int .i64 ((rd_T45 l0 x17_1).f0))).setCell ⟨gb237,1,none⟩ (.int .i64 ((rd_T45 l0 x17_1).f1))).setCell ⟨gb237,2,none⟩ (.string ((rd_T45 l0 x17_1).f2))).heap[gb237]? = some (.cells #[.int .i64 ((rd_T45 l0 x17_1).f0),.int .i64 ((rd_T45 l0 x17_1).f1),.string ((rd_T45 l0 x17_1).f2)] 45 (0,0))):=⟨q1_⟩
    have n2_:Aside0 (Below w.heap.size w (((w60.setCell ⟨gb237,0,none⟩ (.int .i64 ((rd_T45 l0 x17_1).f0))).setCell ⟨gb237,1,none⟩ (.int .i64 ((rd_T45 l0 x17_1).f1))).setCell ⟨gb237,2,none⟩ (.string ((rd_T45 l0 x17_1).f2)))):=⟨q13_⟩
    (try clear HO_6)
    (try clear BK237)
    (try clear HB)
    generalize (((w60.setCell ⟨gb237,0,none⟩ (.int .i64 ((rd_T45 l0 x17_1).f0))).setCell ⟨gb237,1,none⟩ (.int .i64 ((rd_T45 l0 x17_1).f1))).setCell ⟨gb237,2,none⟩ (.string ((rd_T45 l0 x17_1).f2))) = w63 at n0_ n1_ n2_ ⊢
    have HO_6:=n0_
    have BK237:=n1_
    have HB:=n2_
    clear n0_ n1_ n2_
    have n0_:=Aside0.mk (Kd.R_drew HO_6.out)
    have n1_:=Aside0.mk (blk_drew BK237.out)
    have n2_:=Aside0.mk (below_drew1 HB.out)
    clear HO_6
    clear BK237
    clear HB
    have HO_6:=n0_
    have BK237:=n1_
    have HB:=n2_
    clear n0_ n1_ n2_
    have p253:0 ≤ ((ji50):Int):=of_decide_eq_true q42_
    have q253:(ji50) < (x6_1.length:Int):=of_decide_eq_true q42_
    obtain ⟨ad253,e253,hx253_0⟩:=Kd.at_int (Kd.R_reads' HO_6.out).2.2 (ji50) p253 q253
    cases e253
    replace p253:=eq_true p253
    replace q253:=eq_true q253
    have p254:0 ≤ ((ji53):Int):=of_decide_eq_true q42_
    have q254:(ji53) < (x6_1.length:Int):=of_decide_eq_true q42_
    obtain ⟨ad254,e254,hx254_0⟩:=Kd.at_int (Kd.R_reads' HO_6.out).2.2 (ji53) p254 q254
    obtain rfl:ad253 = ad254:=(by injection e254)
    replace p254:=eq_true p254
    replace q254:=eq_true q254
    refine start_ (n:=18) (S:=fun w' => w'.cell? ⟨gb237,0,none⟩ = some (.int .i64 ((rd_T45 l0 x17_1).f0)) ∧ w'.cell? ⟨gb237,1,none⟩ = some (.int .i64 ((rd_T45 l0 x17_1).f1)) ∧ w'.cell? ⟨gb237,2,none⟩ = some (.string ((rd_T45 l0 x17_1).f2)) ∧ w'.cell? (ad253.add ((ji50)).toNat) = some (.int .i32 (rd x6_1 (ji50))) ∧ w'.cell? (ad253.add ((ji53)).toNat) = some (.int .i32 (rd x6_1 (ji53)))) (ds:=[]) #[false,false,false,false,false,false,false,false,false,false,false,false,false,false,false,false,false,false] (by kernel_rfl) rfl rfl ⟨(blk_cell BK237.out 0).trans rfl,(blk_cell BK237.out 1).trans rfl,(blk_cell BK237.out 2).trans rfl,hx253_0,hx254_0⟩ (fun hHeld => ?_);refine with_tabW impl_evaluated.tab6 impl_evaluated.bits6 (fun HT_ HW_ => ?_)
    generalize w63.drew = w64 at HO_6 BK237 HB hx253_0 hx254_0 hHeld ⊢
    refine pure_ (i:=0) (N:=some 24) (v:=?_) (a':=?_) #[true,false,false,false,false,false,false,false,false,false,false,false,false,false,false,false,false,false] rfl rfl (any_of HT_.out (by kernel_rfl)) (fun _ _ _ h => h) (Or.inl ⟨by rfl,?_⟩) ?_ ?_
    rotate_left
    ·intro w'
     go_simp
     with_reducible rfl
    rotate_left
    ·simp only [Act.put,List.setIfInBounds_toArray,List.set_cons_zero,List.set_cons_succ,i64_w,i32_w]
     rfl
    refine pure_ (i:=2) (N:=some 26) (v:=?_) (a':=?_) #[true,false,true,false,false,false,false,false,false,false,false,false,false,false,false,false,false,false] rfl rfl (any_of HT_.out (by kernel_rfl)) (fun _ _ _ h => h) (Or.inl ⟨by rfl,?_⟩) ?_ ?_
    rotate_left
    ·intro w'
     go_simp
     with_reducible rfl
    rotate_left
    ·simp only [Act.put,List.setIfInBounds_toArray,List.set_cons_zero,List.set_cons_succ,i64_w,i32_w]
     rfl
    refine pure_ (i:=3) (N:=some 27) (v:=?_) (a':=?_) #[true,false,true,true,false,false,false,false,false,false,false,false,false,false,false,false,false,false] rfl rfl (any_of HT_.out (by kernel_rfl)) (fun _ _ _ h => h) (Or.inl ⟨by rfl,?_⟩) ?_ ?_
    rotate_left
    ·intro w'
     go_simp
     with_reducible rfl
    rotate_left
    ·simp only [Act.put,List.setIfInBounds_toArray,List.set_cons_zero,List.set_cons_succ,i64_w,i32_w]
     rfl
    refine pure_ (i:=4) (N:=some 28) (v:=?_) (a':=?_) #[true,false,true,true,true,false,false,false,false,false,false,false,false,false,false,false,false,false] rfl rfl (any_of HT_.out (by kernel_rfl)) (fun _ _ _ h => h) (Or.inl ⟨by rfl,?_⟩) ?_ ?_
    rotate_left
    ·intro w'
     go_simp
     with_reducible rfl
    rotate_left
    ·simp only [Act.put,List.setIfInBounds_toArray,List.set_cons_zero,List.set_cons_succ,i64_w,i32_w]
     rfl
    refine pure_ (i:=5) (N:=some 29) (v:=?_) (a':=?_) #[true,false,true,true,true,true,false,false,false,false,false,false,false,false,false,false,false,false] rfl rfl (any_of HT_.out (by kernel_rfl)) (fun _ _ _ h => h) (Or.inl ⟨by rfl,?_⟩) ?_ ?_
    rotate_left
    ·intro w'
     go_simp
     with_reducible rfl
    rotate_left
    ·simp only [Act.put,List.setIfInBounds_toArray,List.set_cons_zero,List.set_cons_succ,i64_w,i32_w]
     rfl
    refine pure_ (i:=7) (N:=some 31) (v:=?_) (a':=?_) #[true,false,true,true,true,true,false,true,false,false,false,false,false,false,false,false,false,false] rfl rfl (any_of HT_.out (by kernel_rfl)) (fun _ _ _ h => h) (Or.inl ⟨by rfl,?_⟩) ?_ ?_
    rotate_left
    ·intro w'
     go_simp
     with_reducible rfl
    rotate_left
    ·simp only [Act.put,List.setIfInBounds_toArray,List.set_cons_zero,List.set_cons_succ,i64_w,i32_w]
     rfl
    refine pure_ (i:=8) (N:=some 32) (v:=?_) (a':=?_) #[true,false,true,true,true,true,false,true,true,false,false,false,false,false,false,false,false,false] rfl rfl (any_of HT_.out (by kernel_rfl)) (fun _ _ _ h => h) (Or.inl ⟨by rfl,?_⟩) ?_ ?_
    rotate_left
    ·intro w'
     go_simp
     with_reducible rfl
    rotate_left
    ·simp only [Act.put,List.setIfInBounds_toArray,List.set_cons_zero,List.set_cons_succ,i64_w,i32_w]
     rfl
    refine pure_ (i:=9) (N:=some 33) (v:=?_) (a':=?_) #[true,false,true,true,true,true,false,true,true,true,false,false,false,false,false,false,false,false] rfl rfl (any_of HT_.out (by kernel_rfl)) (fun _ _ _ h => h) (Or.inl ⟨by rfl,?_⟩) ?_ ?_
    rotate_left
    ·intro w'
     go_simp
     with_reducible rfl
    rotate_left
    ·simp only [Act.put,List.setIfInBounds_toArray,List.set_cons_zero,List.set_cons_succ,i64_w,i32_w]
     rfl
    refine pure_ (i:=10) (N:=some 34) (v:=?_) (a':=?_) #[true,false,true,true,true,true,false,true,true,true,true,false,false,false,false,false,false,false] rfl rfl (any_of HT_.out (by kernel_rfl)) (fun _ _ _ h => h) (Or.inl ⟨by rfl,?_⟩) ?_ ?_
    rotate_left
    ·intro w'
     go_simp
     with_reducible rfl
    rotate_left
    ·simp only [Act.put,List.setIfInBounds_toArray,List.set_cons_zero,List.set_cons_succ,i64_w,i32_w]
     rfl
    refine take_ (i:=1) (N:=some 25) (v:=?_) (a':=?_) #[true,true,true,true,true,true,false,true,true,true,true,false,false,false,false,false,false,false] rfl rfl (take_ofW HT_.out HW_.out (by kernel_rfl)) (fun _ _ _ h => h) (Or.inl ⟨by rfl,?_⟩) hHeld ?_ ?_
    rotate_left
    ·rintro w' ⟨s0,s1,s2,s3,s4⟩
     go_simp
     with_reducible rfl
    rotate_left
    ·simp only [Act.put,List.setIfInBounds_toArray,List.set_cons_zero,List.set_cons_succ,i64_w,i32_w]
     rfl
    refine take_ (i:=6) (N:=some 30) (v:=?_) (a':=?_) #[true,true,true,true,true,true,true,true,true,true,true,false,false,false,false,false,false,false] rfl rfl (take_ofW HT_.out HW_.out (by kernel_rfl)) (fun _ _ _ h => h) (Or.inl ⟨by rfl,?_⟩) hHeld ?_ ?_
    rotate_left
    ·rintro w' ⟨s0,s1,s2,s3,s4⟩
     go_simp
     with_reducible rfl
    rotate_left
    ·simp only [Act.put,List.setIfInBounds_toArray,List.set_cons_zero,List.set_cons_succ,i64_w,i32_w]
     rfl
    refine take_ (i:=11) (N:=some 35) (v:=?_) (a':=?_) #[true,true,true,true,true,true,true,true,true,true,true,true,false,false,false,false,false,false] rfl rfl (take_ofW HT_.out HW_.out (by kernel_rfl)) (fun _ _ _ h => h) (Or.inl ⟨by rfl,?_⟩) hHeld ?_ ?_
    rotate_left
    ·rintro w' ⟨s0,s1,s2,s3,s4⟩
     go_simp
     with_reducible rfl
    rotate_left
    ·simp only [Act.put,List.setIfInBounds_toArray,List.set_cons_zero,List.set_cons_succ,i64_w,i32_w]
     rfl
    refine one_ (i:=12) (N:=some 36) #[true,true,true,true,true,true,true,true,true,true,true,true,true,false,false,false,false,false] rfl rfl (one_of HT_.out (by kernel_rfl)) (by decide) (fun K hK => ?_)
    refine goes_ Try.func26 (by kernel_rfl) rfl #[.int .i64 ((rd_T45 l0 x17_1).f0),.int .i32 (rd x6_1 (ji50)),.int .i32 (rd x6_1 (ji53))] (by rfl) rfl rfl q8_ ?_
    with_reducible refine (impl_operated.calls ((rd_T45 l0 x17_1).f0) (rd x6_1 (ji50)) (rd x6_1 (ji53)) t255 true _ A56.out).mono ?_
    rintro e w' ⟨rfl,⟨nd,rfl⟩⟩
    refine ⟨_,rfl,?_⟩
    refine hK.out _ _ ⟨(blk_cell BK237.out 0).trans rfl,(blk_cell BK237.out 1).trans rfl,(blk_cell BK237.out 2).trans rfl,hHeld.2.2.2.1,hHeld.2.2.2.2⟩ (fun hHeld => ?_)
    clear hK K
    refine norm_ (a':=?_) ?_ ?_
    rotate_left
    ·show Act.put _ (some 36) _ = _
     simp only [Act.put,List.setIfInBounds_toArray,List.set_cons_zero,List.set_cons_succ,i64_w,i32_w]
     rfl
    refine pure_ (i:=13) (N:=some 23) (v:=?_) (a':=?_) #[true,true,true,true,true,true,true,true,true,true,true,true,true,true,false,false,false,false] rfl rfl (any_of HT_.out (by kernel_rfl)) (fun _ _ _ h => h) (Or.inl ⟨by rfl,?_⟩) ?_ ?_
    rotate_left
    ·intro w'
     go_simp
     with_reducible rfl
    rotate_left
    ·simp only [Act.put,List.setIfInBounds_toArray,List.set_cons_zero,List.set_cons_succ,i64_w,i32_w]
     rfl
    refine pure_ (i:=14) (N:=some 37) (v:=?_) (a':=?_) #[true,true,true,true,true,true,true,true,true,true,true,true,true,true,true,false,false,false] rfl rfl (any_of HT_.out (by kernel_rfl)) (fun _ _ _ h => h) (Or.inl ⟨by rfl,?_⟩) ?_ ?_
    rotate_left
    ·intro w'
     go_simp
     with_reducible rfl
    rotate_left
    ·simp only [Act.put,List.setIfInBounds_toArray,List.set_cons_zero,List.set_cons_succ,i64_w,i32_w]
     rfl
    refine pure_ (i:=15) (N:=some 38) (v:=?_) (a':=?_) #[true,true,true,true,true,true,true,true,true,true,true,true,true,true,true,true,false,false] rfl rfl (any_of HT_.out (by kernel_rfl)) (fun _ _ _ h => h) (Or.inl ⟨by rfl,?_⟩) ?_ ?_
    rotate_left
    ·intro w'
     go_simp
     with_reducible rfl
    rotate_left
    ·simp only [Act.put,List.setIfInBounds_toArray,List.set_cons_zero,List.set_cons_succ,i64_w,i32_w]
     rfl
    refine pure_ (i:=16) (N:=some 12) (v:=?_) (a':=?_) #[true,true,true,true,true,true,true,true,true,true,true,true,true,true,true,true,true,false] rfl rfl (any_of HT_.out (by kernel_rfl)) (fun _ _ _ h => h) (Or.inl ⟨by rfl,?_⟩) ?_ ?_
    rotate_left
    ·intro w'
     go_simp
     with_reducible rfl
    rotate_left
    ·simp only [Act.put,List.setIfInBounds_toArray,List.set_cons_zero,List.set_cons_succ,i64_w,i32_w]
     rfl
    refine pure_ (i:=17) (N:=some 13) (v:=?_) (a':=?_) #[true,true,true,true,true,true,true,true,true,true,true,true,true,true,true,true,true,true] rfl rfl (any_of HT_.out (by kernel_rfl)) (fun _ _ _ h => h) (Or.inl ⟨by rfl,?_⟩) ?_ ?_
    rotate_left
    ·intro w'
     go_simp
     with_reducible rfl
    rotate_left
    ·simp only [Act.put,List.setIfInBounds_toArray,List.set_cons_zero,List.set_cons_succ,i64_w,i32_w]
     rfl
    refine done_ (done_of HT_.out (by kernel_rfl)) ?_
    have q65:((ji50):Int) ≤ ((x6_1.length:Int):Int):=of_decide_eq_true q42_
    obtain ⟨i065,hi065,_,hsz65,_⟩:=info_parts info21
    have hcut65:=cut_to (P:=Try.prog) 50 21 .i64 Try.underlying50 hi065 (some ad253) x6_1.length co62 (ji50) (of_decide_eq_true q42_) q65 (Kd.R_reads' HO_6.out).2.1
    have hr65:=Kd.R_take (m:=((ji50):Int).toNat) HO_6.out (by omega)
    have hy65:y257.length = ((ji50):Int).toNat:=(by rw [Ny257.out,List.length_take];omega)
    rw [← Ny257.out] at hr65
    rw [← hy65] at hr65 hcut65
    clear hy65 hi065 hsz65 HO_6
    have HO259:=Aside0.mk hr65
    clear hr65
    replace q65:=eq_true q65
    try go_wp2_with (first | ((with_reducible refine gate_builtin (b:=.append) (xs:=#[.tmp 44,.tmp 46]) rfl ?_);at_builtin;refine Kd.R_append (Kd.int .i32) (w0:=w) w.heap.size rfl (.tmp 44) (.tmp 46) 50 21 (.int .i32 0) 4 rfl Try.underlying50 info21 rfl (by decide) (by omega) (.slice (some ad253) y257.length co62) y257 t255 [.int .i32 t255] (fun _ => True) (fun _ => False) rfl rfl ?aP (fun _ hk => hk.elim) ?aF ?aO ?aB ?aS ?aL ?_;(case aP => exact rfl);(case aB => exact q13_);(case aF => exact (fun _ _ => trivial));(case aO => exact (by (with_reducible repeat (first | apply Kd.R_alloc | apply Kd.R_drewN | apply Kd.R_drew));exact HO259.out));(case aS => exact (below_size q13_));(case aL => have:=LMc59.out;omega);intro v261 w66 ho hb hg hat;rw [← Ny260.out] at ho;have n0_:=Aside0.mk (blk_grown (g:=gb237) (o:=.cells #[.int .i64 ((rd_T45 l0 x17_1).f0),.int .i64 ((rd_T45 l0 x17_1).f1),.string ((rd_T45 l0 x17_1).f2)] 45 (0,0)) q23_ hg (Kd.R_ne HO259.out BK237.out (by decide)));have n1_:=Aside0.mk (hb);have n2_:=Aside0.mk (ho);clear BK237;clear HB;clear HO259;have BK237:=n0_;have HB:=n1_;have HO262:=n2_;clear n0_ n1_ n2_;clear ho hb hg hat))
    go_roundg k1
    case measure => have:=HK1.out;omega
    case rel => exact ⟨(y260),(wrap64 (x17_1 + 1)),q25_,(by first | with_reducible exact H' | (have H2_:=H';simp only [← hji50,← hji53] at H2_ ⊢;with_reducible exact H2_) | exact H'),⟨by have:=HK1.out;omega⟩,⟨by (with_reducible repeat (first | apply Kd.R_alloc | apply Kd.R_drewN | apply Kd.R_drew));exact HO262.out⟩,⟨q13_⟩⟩
   replace c57:=Bool.eq_false_iff.mpr c57
   subst c57
   rewrite [if_neg (show ¬ (false = true) by decide)] at H
   simp only [Option.some.injEq,Prod.mk.injEq] at H
   obtain ⟨rfl,rfl⟩:=H
   have p236:0 ≤ (x17_1:Int):=of_decide_eq_true q42_
   have q236:x17_1 < (l0.length:Int):=of_decide_eq_true q42_
   obtain ⟨ad236,e236,hx236_0,hx236_1,hx236_2⟩:=at_T45 HR0.out x17_1 p236 q236
   cases e236
   replace hx236_0:=(HB.out.cell (World.block_lt_of_cell? w _ hx236_0)).trans hx236_0
   replace hx236_1:=(HB.out.cell (World.block_lt_of_cell? w _ hx236_1)).trans hx236_1
   replace hx236_2:=(HB.out.cell (World.block_lt_of_cell? w _ hx236_2)).trans hx236_2
   replace p236:=eq_true p236
   replace q236:=eq_true q236
   try go_wp2_with (first | ((with_reducible refine gate_dst (N:=8) rfl ?_);refine box_event ?hg (N:=8) ?hd (cs:=#[.int .i64 0,.int .i64 0,.string (⟨#[]⟩:ByteArray)]) (t:=45) ?hr ?_;(case hd => rfl);(case hg => rfl);(case hr => exact q62_);intro gb237 hg w67 hbox hb;have n0_:=Aside0.mk (Kd.R_below q37_ hb);have n1_:=Aside0.mk (below_step q20_ hb);have n2_:=Aside0.mk (hbox);have n3_:=Aside0.mk ((q10_:w.heap.size ≤ gb237));have n4_:=Aside0.mk ((q10_:w.heap.size ≤ gb237));clear HO_6;clear HB;have HO_6:=n0_;have HB:=n1_;have BK237:=n2_;have GW237:=n3_;have GE237:=n4_;clear n0_ n1_ n2_ n3_ n4_;clear hb hbox hg;have hcz68_0:w67.cell? ⟨gb237,0,none⟩ = some (.int .i64 0):=(blk_cell BK237.out 0).trans rfl;have hcz68_1:w67.cell? ⟨gb237,1,none⟩ = some (.int .i64 0):=(blk_cell BK237.out 1).trans rfl;have hcz68_2:w67.cell? ⟨gb237,2,none⟩ = some (.string (⟨#[]⟩:ByteArray)):=(blk_cell BK237.out 2).trans rfl;have hfz68_0:=blk_frozen BK237.out 0;have hfz68_1:=blk_frozen BK237.out 1;have hfz68_2:=blk_frozen BK237.out 2;obtain ⟨Ao69,co69,eo69⟩:=Kd.R_slice HO_6.out;subst eo69))
   have n0_:Aside0 (Kd.R (Kd.int .i32) 21 (((w67.setCell ⟨gb237,0,none⟩ (.int .i64 ((rd_T45 l0 x17_1).f0))).setCell ⟨gb237,1,none⟩ (.int .i64 ((rd_T45 l0 x17_1).f1))).setCell ⟨gb237,2,none⟩ (.string ((rd_T45 l0 x17_1).f2))) w.heap.size (fun _ => True) (.slice Ao69 x6_1.length co69) x6_1):=⟨q2_⟩
   have n1_:Aside0 ((((w67.setCell ⟨gb237,0,none⟩ (.int .i64 ((rd_T45 l0 x17_1).f0))).setCell ⟨gb237,1,none⟩ (.int .i64 ((rd_T45 l0 x17_1).f1))).setCell ⟨gb237,2,none⟩ (.string ((rd_T45 l0 x17_1).f2))).heap[gb237]? = some (.cells #[.int .i64 ((rd_T45 l0 x17_1).f0),.int .i64 ((rd_T45 l0 x17_1).f1),.string ((rd_T45 l0 x17_1).f2)] 45 (0,0))):=⟨q1_⟩
   have n2_:Aside0 (Below w.heap.size w (((w67.setCell ⟨gb237,0,none⟩ (.int .i64 ((rd_T45 l0 x17_1).f0))).setCell ⟨gb237,1,none⟩ (.int .i64 ((rd_T45 l0 x17_1).f1))).setCell ⟨gb237,2,none⟩ (.string ((rd_T45 l0 x17_1).f2)))):=⟨q13_⟩
   (try clear HO_6)
   (try clear BK237)
   (try clear HB)
   generalize (((w67.setCell ⟨gb237,0,none⟩ (.int .i64 ((rd_T45 l0 x17_1).f0))).setCell ⟨gb237,1,none⟩ (.int .i64 ((rd_T45 l0 x17_1).f1))).setCell ⟨gb237,2,none⟩ (.string ((rd_T45 l0 x17_1).f2))) = w70 at n0_ n1_ n2_ ⊢
   have HO_6:=n0_
   have BK237:=n1_
   have HB:=n2_
   clear n0_ n1_ n2_
   have n0_:=Aside0.mk (Kd.R_drew HO_6.out)
   have n1_:=Aside0.mk (blk_drew BK237.out)
   have n2_:=Aside0.mk (below_drew1 HB.out)
   clear HO_6
   clear BK237
   clear HB
   have HO_6:=n0_
   have BK237:=n1_
   have HB:=n2_
   clear n0_ n1_ n2_
   have p253:0 ≤ ((ji50):Int):=of_decide_eq_true q42_
   have q253:(ji50) < (x6_1.length:Int):=of_decide_eq_true q42_
   obtain ⟨ad253,e253,hx253_0⟩:=Kd.at_int (Kd.R_reads' HO_6.out).2.2 (ji50) p253 q253
   cases e253
   replace p253:=eq_true p253
   replace q253:=eq_true q253
   have p254:0 ≤ ((ji53):Int):=of_decide_eq_true q42_
   have q254:(ji53) < (x6_1.length:Int):=of_decide_eq_true q42_
   obtain ⟨ad254,e254,hx254_0⟩:=Kd.at_int (Kd.R_reads' HO_6.out).2.2 (ji53) p254 q254
   obtain rfl:ad253 = ad254:=(by injection e254)
   replace p254:=eq_true p254
   replace q254:=eq_true q254
   refine start_ (n:=18) (S:=fun w' => w'.cell? ⟨gb237,0,none⟩ = some (.int .i64 ((rd_T45 l0 x17_1).f0)) ∧ w'.cell? ⟨gb237,1,none⟩ = some (.int .i64 ((rd_T45 l0 x17_1).f1)) ∧ w'.cell? ⟨gb237,2,none⟩ = some (.string ((rd_T45 l0 x17_1).f2)) ∧ w'.cell? (ad253.add ((ji50)).toNat) = some (.int .i32 (rd x6_1 (ji50))) ∧ w'.cell? (ad253.add ((ji53)).toNat) = some (.int .i32 (rd x6_1 (ji53)))) (ds:=[]) #[false,false,false,false,false,false,false,false,false,false,false,false,false,false,false,false,false,false] (by kernel_rfl) rfl rfl ⟨(blk_cell BK237.out 0).trans rfl,(blk_cell BK237.out 1).trans rfl,(blk_cell BK237.out 2).trans rfl,hx253_0,hx254_0⟩ (fun hHeld => ?_);refine with_tabW impl_evaluated.tab6 impl_evaluated.bits6 (fun HT_ HW_ => ?_)
   generalize w70.drew = w71 at HO_6 BK237 HB hx253_0 hx254_0 hHeld ⊢
   refine pure_ (i:=0) (N:=some 24) (v:=?_) (a':=?_) #[true,false,false,false,false,false,false,false,false,false,false,false,false,false,false,false,false,false] rfl rfl (any_of HT_.out (by kernel_rfl)) (fun _ _ _ h => h) (Or.inl ⟨by rfl,?_⟩) ?_ ?_
   rotate_left
   ·intro w'
    go_simp
    with_reducible rfl
   rotate_left
   ·simp only [Act.put,List.setIfInBounds_toArray,List.set_cons_zero,List.set_cons_succ,i64_w,i32_w]
    rfl
   refine pure_ (i:=2) (N:=some 26) (v:=?_) (a':=?_) #[true,false,true,false,false,false,false,false,false,false,false,false,false,false,false,false,false,false] rfl rfl (any_of HT_.out (by kernel_rfl)) (fun _ _ _ h => h) (Or.inl ⟨by rfl,?_⟩) ?_ ?_
   rotate_left
   ·intro w'
    go_simp
    with_reducible rfl
   rotate_left
   ·simp only [Act.put,List.setIfInBounds_toArray,List.set_cons_zero,List.set_cons_succ,i64_w,i32_w]
    rfl
   refine pure_ (i:=3) (N:=some 27) (v:=?_) (a':=?_) #[true,false,true,true,false,false,false,false,false,false,false,false,false,false,false,false,false,false] rfl rfl (any_of HT_.out (by kernel_rfl)) (fun _ _ _ h => h) (Or.inl ⟨by rfl,?_⟩) ?_ ?_
   rotate_left
   ·intro w'
    go_simp
    with_reducible rfl
   rotate_left
   ·simp only [Act.put,List.setIfInBounds_toArray,List.set_cons_zero,List.set_cons_succ,i64_w,i32_w]
    rfl
   refine pure_ (i:=4) (N:=some 28) (v:=?_) (a':=?_) #[true,false,true,true,true,false,false,false,false,false,false,false,false,false,false,false,false,false] rfl rfl (any_of HT_.out (by kernel_rfl)) (fun _ _ _ h => h) (Or.inl ⟨by rfl,?_⟩) ?_ ?_
   rotate_left
   ·intro w'
    go_simp
    with_reducible rfl
   rotate_left
   ·simp only [Act.put,List.setIfInBounds_toArray,List.set_cons_zero,List.set_cons_succ,i64_w,i32_w]
    rfl
   refine pure_ (i:=5) (N:=some 29) (v:=?_) (a':=?_) #[true,false,true,true,true,true,false,false,false,false,false,false,false,false,false,false,false,false] rfl rfl (any_of HT_.out (by kernel_rfl)) (fun _ _ _ h => h) (Or.inl ⟨by rfl,?_⟩) ?_ ?_
   rotate_left
   ·intro w'
    go_simp
    with_reducible rfl
   rotate_left
   ·simp only [Act.put,List.setIfInBounds_toArray,List.set_cons_zero,List.set_cons_succ,i64_w,i32_w]
    rfl
   refine pure_ (i:=7) (N:=some 31) (v:=?_) (a':=?_) #[true,false,true,true,true,true,false,true,false,false,false,false,false,false,false,false,false,false] rfl rfl (any_of HT_.out (by kernel_rfl)) (fun _ _ _ h => h) (Or.inl ⟨by rfl,?_⟩) ?_ ?_
   rotate_left
   ·intro w'
    go_simp
    with_reducible rfl
   rotate_left
   ·simp only [Act.put,List.setIfInBounds_toArray,List.set_cons_zero,List.set_cons_succ,i64_w,i32_w]
    rfl
   refine pure_ (i:=8) (N:=some 32) (v:=?_) (a':=?_) #[true,false,true,true,true,true,false,true,true,false,false,false,false,false,false,false,false,false] rfl rfl (any_of HT_.out (by kernel_rfl)) (fun _ _ _ h => h) (Or.inl ⟨by rfl,?_⟩) ?_ ?_
   rotate_left
   ·intro w'
    go_simp
    with_reducible rfl
   rotate_left
   ·simp only [Act.put,List.setIfInBounds_toArray,List.set_cons_zero,List.set_cons_succ,i64_w,i32_w]
    rfl
   refine pure_ (i:=9) (N:=some 33) (v:=?_) (a':=?_) #[true,false,true,true,true,true,false,true,true,true,false,false,false,false,false,false,false,false] rfl rfl (any_of HT_.out (by kernel_rfl)) (fun _ _ _ h => h) (Or.inl ⟨by rfl,?_⟩) ?_ ?_
   rotate_left
   ·intro w'
    go_simp
    with_reducible rfl
   rotate_left
   ·simp only [Act.put,List.setIfInBounds_toArray,List.set_cons_zero,List.set_cons_succ,i64_w,i32_w]
    rfl
   refine pure_ (i:=10) (N:=some 34) (v:=?_) (a':=?_) #[true,false,true,true,true,true,false,true,true,true,true,false,false,false,false,false,false,false] rfl rfl (any_of HT_.out (by kernel_rfl)) (fun _ _ _ h => h) (Or.inl ⟨by rfl,?_⟩) ?_ ?_
   rotate_left
   ·intro w'
    go_simp
    with_reducible rfl
   rotate_left
   ·simp only [Act.put,List.setIfInBounds_toArray,List.set_cons_zero,List.set_cons_succ,i64_w,i32_w]
    rfl
   refine take_ (i:=1) (N:=some 25) (v:=?_) (a':=?_) #[true,true,true,true,true,true,false,true,true,true,true,false,false,false,false,false,false,false] rfl rfl (take_ofW HT_.out HW_.out (by kernel_rfl)) (fun _ _ _ h => h) (Or.inl ⟨by rfl,?_⟩) hHeld ?_ ?_
   rotate_left
   ·rintro w' ⟨s0,s1,s2,s3,s4⟩
    go_simp
    with_reducible rfl
   rotate_left
   ·simp only [Act.put,List.setIfInBounds_toArray,List.set_cons_zero,List.set_cons_succ,i64_w,i32_w]
    rfl
   refine take_ (i:=6) (N:=some 30) (v:=?_) (a':=?_) #[true,true,true,true,true,true,true,true,true,true,true,false,false,false,false,false,false,false] rfl rfl (take_ofW HT_.out HW_.out (by kernel_rfl)) (fun _ _ _ h => h) (Or.inl ⟨by rfl,?_⟩) hHeld ?_ ?_
   rotate_left
   ·rintro w' ⟨s0,s1,s2,s3,s4⟩
    go_simp
    with_reducible rfl
   rotate_left
   ·simp only [Act.put,List.setIfInBounds_toArray,List.set_cons_zero,List.set_cons_succ,i64_w,i32_w]
    rfl
   refine take_ (i:=11) (N:=some 35) (v:=?_) (a':=?_) #[true,true,true,true,true,true,true,true,true,true,true,true,false,false,false,false,false,false] rfl rfl (take_ofW HT_.out HW_.out (by kernel_rfl)) (fun _ _ _ h => h) (Or.inl ⟨by rfl,?_⟩) hHeld ?_ ?_
   rotate_left
   ·rintro w' ⟨s0,s1,s2,s3,s4⟩
    go_simp
    with_reducible rfl
   rotate_left
   ·simp only [Act.put,List.setIfInBounds_toArray,List.set_cons_zero,List.set_cons_succ,i64_w,i32_w]
    rfl
   refine one_ (i:=12) (N:=some 36) #[true,true,true,true,true,true,true,true,true,true,true,true,true,false,false,false,false,false] rfl rfl (one_of HT_.out (by kernel_rfl)) (by decide) (fun K hK => ?_)
   refine goes_ Try.func26 (by kernel_rfl) rfl #[.int .i64 ((rd_T45 l0 x17_1).f0),.int .i32 (rd x6_1 (ji50)),.int .i32 (rd x6_1 (ji53))] (by rfl) rfl rfl q8_ ?_
   with_reducible refine (impl_operated.calls ((rd_T45 l0 x17_1).f0) (rd x6_1 (ji50)) (rd x6_1 (ji53)) t255 false _ A56.out).mono ?_
   rintro e w' ⟨rfl,⟨nd,rfl⟩⟩
   refine ⟨_,rfl,?_⟩
   refine hK.out _ _ ⟨(blk_cell BK237.out 0).trans rfl,(blk_cell BK237.out 1).trans rfl,(blk_cell BK237.out 2).trans rfl,hHeld.2.2.2.1,hHeld.2.2.2.2⟩ (fun hHeld => ?_)
   clear hK K
   refine norm_ (a':=?_) ?_ ?_
   rotate_left
   ·show Act.put _ (some 36) _ = _
    simp only [Act.put,List.setIfInBounds_toArray,List.set_cons_zero,List.set_cons_succ,i64_w,i32_w]
    rfl
   refine pure_ (i:=13) (N:=some 23) (v:=?_) (a':=?_) #[true,true,true,true,true,true,true,true,true,true,true,true,true,true,false,false,false,false] rfl rfl (any_of HT_.out (by kernel_rfl)) (fun _ _ _ h => h) (Or.inl ⟨by rfl,?_⟩) ?_ ?_
   rotate_left
   ·intro w'
    go_simp
    with_reducible rfl
   rotate_left
   ·simp only [Act.put,List.setIfInBounds_toArray,List.set_cons_zero,List.set_cons_succ,i64_w,i32_w]
    rfl
   refine pure_ (i:=14) (N:=some 37) (v:=?_) (a':=?_) #[true,true,true,true,true,true,true,true,true,true,true,true,true,true,true,false,false,false] rfl rfl (any_of HT_.out (by kernel_rfl)) (fun _ _ _ h => h) (Or.inl ⟨by rfl,?_⟩) ?_ ?_
   rotate_left
   ·intro w'
    go_simp
    with_reducible rfl
   rotate_left
   ·simp only [Act.put,List.setIfInBounds_toArray,List.set_cons_zero,List.set_cons_succ,i64_w,i32_w]
    rfl
   refine pure_ (i:=15) (N:=some 38) (v:=?_) (a':=?_) #[true,true,true,true,true,true,true,true,true,true,true,true,true,true,true,true,false,false] rfl rfl (any_of HT_.out (by kernel_rfl)) (fun _ _ _ h => h) (Or.inl ⟨by rfl,?_⟩) ?_ ?_
   rotate_left
   ·intro w'
    go_simp
    with_reducible rfl
   rotate_left
   ·simp only [Act.put,List.setIfInBounds_toArray,List.set_cons_zero,List.set_cons_succ,i64_w,i32_w]
    rfl
   refine pure_ (i:=16) (N:=some 12) (v:=?_) (a':=?_) #[true,true,true,true,true,true,true,true,true,true,true,true,true,true,true,true,true,false] rfl rfl (any_of HT_.out (by kernel_rfl)) (fun _ _ _ h => h) (Or.inl ⟨by rfl,?_⟩) ?_ ?_
   rotate_left
   ·intro w'
    go_simp
    with_reducible rfl
   rotate_left
   ·simp only [Act.put,List.setIfInBounds_toArray,List.set_cons_zero,List.set_cons_succ,i64_w,i32_w]
    rfl
   refine pure_ (i:=17) (N:=some 13) (v:=?_) (a':=?_) #[true,true,true,true,true,true,true,true,true,true,true,true,true,true,true,true,true,true] rfl rfl (any_of HT_.out (by kernel_rfl)) (fun _ _ _ h => h) (Or.inl ⟨by rfl,?_⟩) ?_ ?_
   rotate_left
   ·intro w'
    go_simp
    with_reducible rfl
   rotate_left
   ·simp only [Act.put,List.setIfInBounds_toArray,List.set_cons_zero,List.set_cons_succ,i64_w,i32_w]
    rfl
   refine done_ (done_of HT_.out (by kernel_rfl)) ?_
   try go_wp2
   go_ret2
   exact ⟨by first | rfl | (simp [errW_none,errW_some] <;> rfl) | (simp only [← hji50,← hji53];first | rfl | (simp [errW_none,errW_some] <;> rfl)) | (simp [*,errW_none,errW_some] <;> rfl) | (exfalso;simp_all;done),q13_⟩
  rw [if_neg c5] at H
  have c5b0:=decide_eq_false c5
  clear c5
  by_cases c72:0 < (x6_1.length:Int)
  rotate_left
  ·rw [if_neg c72] at H
   exact absurd H (by simp)
  rw [if_pos c72] at H
  have c72b0:=decide_eq_true c72
  have c72b1:decide (0 < x6_1.length) = true:=decide_eq_true (by omega)
  clear c72
  simp only [Option.some.injEq,Prod.mk.injEq] at H
  obtain ⟨rfl,rfl⟩:=H
  obtain ⟨Ao73,co73,eo73⟩:=Kd.R_slice HO_6.out
  subst eo73
  have p235:0 ≤ (0:Int):=(by omega)
  have q235:0 < (x6_1.length:Int):=of_decide_eq_true q42_
  obtain ⟨ad235,e235,hx235_0⟩:=Kd.at_int (Kd.R_reads' HO_6.out).2.2 0 p235 q235
  cases e235
  have qi235:(0 < x6_1.length) = True:=eq_true (by omega)
  (try rw [show ((0:Int)).toNat = 0 from rfl] at hx235_0)
  (try rw [Addr.add_zero'] at hx235_0)
  replace p235:=eq_true p235
  replace q235:=eq_true q235
  go_wp2
  go_ret2
  exact ⟨q21_,q20_⟩
end Go.Proofs.Ytpghjbikjmnnoaa.QFnEval
