/- The machine's side of a law,written by a program of this session for this claim. -/
import Derived.Test.YtpghjbikjmnnoaaSFnEvalQq
import Derived.Test.YtpghjbikjmnnoaaSFnEvalQFnEvalx0
import Derived.Test.YtpghjbikjmnnoaaSFnEvalQFnEvalx5
import Derived.Test.YtpghjbikjmnnoaaSFnEvalQFnEvalx8
namespace Go.Proofs.Ytpghjbikjmnnoaa.QFnEval
open Go.Proofs.Ytpghjbikjmnnoaa.Qq
open Go.RowKit Go.Proofs.Ytpghjbikjmnnoaa.LibX Go.Proofs.Ytpghjbikjmnnoaa.LibG Go.Proofs.Ytpghjbikjmnnoaa.LibCv Go.Proofs.Ytpghjbikjmnnoaa.LibNm Go.Proofs.Ytpghjbikjmnnoaa.LibIx Go.Proofs.YtpghjbikjmnnoaaW.PrintWords Go.Proofs.YtpghjbikjmnnoaaW.PrintLast Go.Proofs.YtpghjbikjmnnoaaW.PrintMore
attribute [local go_sem] max2_int min2_int max_two min_two max_three min_three max_four min_four   -- for this text's walks alone
set_option maxHeartbeats 8000000
set_option maxRecDepth 100000
set_option linter.unusedVariables false
set_option linter.unusedSimpArgs false
mutual
def spec_l2Eval.l0:Nat → List (S45) → List (S33) → List Int → Int → Option (Int × Int)
 | 0,_,_,_,_ => none
 | k + 1,x0,x1,x6,x7 => if x7 < (x0.length:Int) then (if 0 ≤ x7 then (if ((rd_T45 x0 x7).f0) = 1 then (if x6.length < 17592186044416 then (spec_l2Eval.l0 k x0 x1 (x6 ++ [(rd_T45 x0 x7).f1]) (wrap64 (x7 + 1))) else (none)) else (if ((rd_T45 x0 x7).f0) = 2 then (spec_l2Eval.j1 k x0 x1 x6 x7 (x6.length:Int) ((rd_T45 x0 x7).f0) (((rd_T45 x0 x7).f0) == 2)) else (spec_l2Eval.j1 k x0 x1 x6 x7 (x6.length:Int) ((rd_T45 x0 x7).f0) (((rd_T45 x0 x7).f0) == 3)))) else (none)) else (if 0 < (x6.length:Int) then (some (rd x6 0,0)) else (none))
def spec_l2Eval.j1:Nat → List (S45) → List (S33) → List Int → Int → Int → Int → Bool → Option (Int × Int)
 | 0,_,_,_,_,_,_,_ => none
 | k + 1,x0,x1,x6,x7,x8,x26,x37 => if x37 = true then (if 0 ≤ x7 then (if x7 < (x0.length:Int) then ((l2Sym_idx.f k x1 ((rd_T45 x0 x7).f2)).bind fun t297 => (if t297 < 0 then (some (0,2)) else (if 0 ≤ t297 then (if t297 < (x1.length:Int) then (if ((rd_T45 x0 x7).f0) = 3 then ((spec_l2Wrap.f ((rd_T33 x1 t297).f1)).bind fun t301 => (if x6.length < 17592186044416 then (spec_l2Eval.l0 k x0 x1 (x6 ++ [t301]) (wrap64 (x7 + 1))) else (none))) else ((spec_l2Wrap.f ((rd_T33 x1 t297).f2)).bind fun t305 => (if x6.length < 17592186044416 then (spec_l2Eval.l0 k x0 x1 (x6 ++ [t305]) (wrap64 (x7 + 1))) else (none)))) else (none)) else (none)))) else (none)) else (none)) else (if x26 = 4 then (if 0 ≤ (wrap64 (x8 - 1)) then (if (wrap64 (x8 - 1)) < (x6.length:Int) then ((spec_l2Wrap.f (wrap64 (-(rd x6 (wrap64 (x8 - 1)))))).bind fun t310 => (spec_l2Eval.l0 k x0 x1 (x6.set ((wrap64 (x8 - 1)):Int).toNat t310) (wrap64 (x7 + 1)))) else (none)) else (none)) else (if x26 = 5 then (if 0 ≤ (wrap64 (x8 - 1)) then (if (wrap64 (x8 - 1)) < (x6.length:Int) then (spec_l2Eval.l0 k x0 x1 (x6.set ((wrap64 (x8 - 1)):Int).toNat (Go.bits .xor .i64 (-1) (rd x6 (wrap64 (x8 - 1))))) (wrap64 (x7 + 1))) else (none)) else (none)) else (if x26 = 6 then (if 0 ≤ (wrap64 (x8 - 1)) then (if (wrap64 (x8 - 1)) < (x6.length:Int) then (spec_l2Eval.l0 k x0 x1 (x6.set ((wrap64 (x8 - 1)):Int).toNat (Go.bits .and .i64 ((rd x6 (wrap64 (x8 - 1))) / 256) 255)) (wrap64 (x7 + 1))) else (none)) else (none)) else (if x26 = 7 then (if 0 ≤ (wrap64 (x8 - 1)) then (if (wrap64 (x8 - 1)) < (x6.length:Int) then (spec_l2Eval.l0 k x0 x1 (x6.set ((wrap64 (x8 - 1)):Int).toNat (Go.bits .and .i64 (rd x6 (wrap64 (x8 - 1))) 255)) (wrap64 (x7 + 1))) else (none)) else (none)) else (if 0 ≤ x7 then (if x7 < (x0.length:Int) then (if 0 ≤ (wrap64 (x8 - 2)) then (if (wrap64 (x8 - 2)) < (x6.length:Int) then (if 0 ≤ (wrap64 (x8 - 1)) then (if (wrap64 (x8 - 1)) < (x6.length:Int) then ((spec_l2Two.f ((rd_T45 x0 x7).f0) (rd x6 (wrap64 (x8 - 2))) (rd x6 (wrap64 (x8 - 1)))).bind fun bt321 => (if bt321.2 = true then (if (wrap64 (x8 - 2)) ≤ (x6.length:Int) then ((some (x6.take ((wrap64 (x8 - 2)):Int).toNat:List Int)).bind fun y323 => (if y323.length < 17592186044416 then (spec_l2Eval.l0 k x0 x1 (y323 ++ [bt321.1]) (wrap64 (x7 + 1))) else (none))) else (none)) else (some (0,3)))) else (none)) else (none)) else (none)) else (none)) else (none)) else (none))))))
end
def spec_l2Eval.f (k:Nat) (l0:List (S45)) (l1:List (S33)):Option (Int × Int):=spec_l2Eval.l0 k l0 l1 (([]:List Int)) 0
theorem spec_l2Eval.mono_l:∀ k,(∀ y0 y1 y2 y3,LeO (spec_l2Eval.l0 k y0 y1 y2 y3) (spec_l2Eval.l0 (k + 1) y0 y1 y2 y3)) ∧ (∀ y0 y1 y2 y3 y4 y5 y6,LeO (spec_l2Eval.j1 k y0 y1 y2 y3 y4 y5 y6) (spec_l2Eval.j1 (k + 1) y0 y1 y2 y3 y4 y5 y6))
 | 0 => ⟨fun _ _ _ _ r h => by simp [spec_l2Eval.l0] at h,fun _ _ _ _ _ _ _ r h => by simp [spec_l2Eval.j1] at h⟩
 | k + 1 => by
  obtain ⟨ih0,ih1⟩:=spec_l2Eval.mono_l k
  refine ⟨?_,?_⟩
  ·intro y0 y1 y2 y3
   unfold spec_l2Eval.l0
   repeat' first
   | (with_reducible first | exact ih0 _ _ _ _ | exact ih1 _ _ _ _ _ _ _ | exact l2Sym_idx.mono _ _ _ | exact LeO.refl _ | exact LeO.none _ | refine LeO.ite ?_ ?_ | refine LeO.bind ?_ (fun _ => ?_))
   | exact ih0 _ _ _ _
   | exact ih1 _ _ _ _ _ _ _
   | exact l2Sym_idx.mono _ _ _
   | exact LeO.none _
   | refine LeO.ite ?_ ?_
   | refine LeO.bind ?_ (fun _ => ?_)
  intro y0 y1 y2 y3 y4 y5 y6
  unfold spec_l2Eval.j1
  repeat' first
  | (with_reducible first | exact ih0 _ _ _ _ | exact ih1 _ _ _ _ _ _ _ | exact l2Sym_idx.mono _ _ _ | exact LeO.refl _ | exact LeO.none _ | refine LeO.ite ?_ ?_ | refine LeO.bind ?_ (fun _ => ?_))
  | exact ih0 _ _ _ _
  | exact ih1 _ _ _ _ _ _ _
  | exact l2Sym_idx.mono _ _ _
  | exact LeO.none _
  | refine LeO.ite ?_ ?_
  | refine LeO.bind ?_ (fun _ => ?_)
theorem spec_l2Eval.mono:∀ a0 a1 k,LeO (spec_l2Eval.f k a0 a1) (spec_l2Eval.f (k + 1) a0 a1):=by
 intro a0 a1 k
 obtain ⟨ih0,ih1⟩:=spec_l2Eval.mono_l k
 unfold spec_l2Eval.f
 repeat' first
   | (with_reducible first | exact ih0 _ _ _ _ | exact ih1 _ _ _ _ _ _ _ | exact l2Sym_idx.mono _ _ _ | exact LeO.refl _ | exact LeO.none _ | refine LeO.ite ?_ ?_ | refine LeO.bind ?_ (fun _ => ?_))
   | exact ih0 _ _ _ _
   | exact ih1 _ _ _ _ _ _ _
   | exact l2Sym_idx.mono _ _ _
   | exact LeO.none _
   | refine LeO.ite ?_ ?_
   | refine LeO.bind ?_ (fun _ => ?_)
theorem spec_l2Eval.calls (k:Nat) (A0:Option Addr) (c0:Nat) (l0:List (S45)) (A1:Option Addr) (c1:Nat) (l1:List (S33)) (r1:Int) (r2:Int) (w:World) (hr0:Kd.C k45 w A0 l0.length l0) (hc0:l0.length ≤ c0) (hr1:Kd.C k33 w A1 l1.length l1) (hc1:l1.length ≤ c1) (h:spec_l2Eval.f k l0 l1 = some (r1,r2)) :
  Calls Try.prog 15 #[.slice A0 l0.length c0,.slice A1 l1.length c1] w fun e w' => e = .returned (.tuple #[.int .i64 r1,.int .i64 r2]) ∧ Below w.heap.size w w':=by
 have HR0:=Aside0.mk hr0
 have HC0:=Aside0.mk hc0
 clear hr0 hc0
 have HR1:=Aside0.mk hr1
 have HC1:=Aside0.mk hc1
 clear hr1 hc1
 have HB:=Aside0.mk (Below.refl w.heap.size w)
 have H:(spec_l2Eval.l0 k l0 l1 (([]:List Int)) 0) = some (r1,r2):=h
 clear h
 obtain ⟨y287,hy287⟩:∃ y_:List Int,y_ = (([]:List Int)):=⟨_,rfl⟩
 replace H:(spec_l2Eval.l0 k l0 l1 y287 0) = some (r1,r2):=by first | (rw [hy287];exact H) | exact H
 have Ny287:=Aside0.mk hy287
 clear hy287
 have H':=Aside0.mk H
 clear H
 go_enter Try.func15,Try.ntmps15
 go_wp2_with (first | ((with_reducible refine gate_dst (N:=13) rfl ?_);refine Kd.R_lit (Kd.int .i64) _ 2 ?hg (N:=13) ?hd (xs:=([]:List Int)) (inner:=[]) (ok:=fun _ => True) (okp:=fun _ => True) ?hr ?hp (fun _ hk => hk) trivial (Below.refl _ _) (Nat.le_refl _) (by simp) ?_;(case hd => rfl);(case hg => rfl);(case hr => exact q62_);(case hp => exact (Reps.none _ _));intro v288 w3 ho4 hb hg_ hnew_;clear hg_ hnew_;(first | rw [← Ny287.out] at ho4 | (simp only [Int.reduceToNat] at ho4;rw [← Ny287.out] at ho4));have n0_:=Aside0.mk (Kd.R_lower ho4 (below_size q20_));have n1_:=Aside0.mk (below_step q20_ hb);clear HB;have HO289:=n0_;have HB:=n1_;clear n0_ n1_;clear hb ho4))
 repeat (go_quiet (first | ((with_reducible refine gate_dst (N:=13) rfl ?_);refine Kd.R_lit (Kd.int .i64) _ 2 ?hg (N:=13) ?hd (xs:=([]:List Int)) (inner:=[]) (ok:=fun _ => True) (okp:=fun _ => True) ?hr ?hp (fun _ hk => hk) trivial (Below.refl _ _) (Nat.le_refl _) (by simp) ?_;(case hd => rfl);(case hg => rfl);(case hr => exact q62_);(case hp => exact (Reps.none _ _));intro v288 w3 ho4 hb hg_ hnew_;clear hg_ hnew_;(first | rw [← Ny287.out] at ho4 | (simp only [Int.reduceToNat] at ho4;rw [← Ny287.out] at ho4));have n0_:=Aside0.mk (Kd.R_lower ho4 (below_size q20_));have n1_:=Aside0.mk (below_step q20_ hb);clear HB;have HO289:=n0_;have HB:=n1_;clear n0_ n1_;clear hb ho4));try go_wp2_with (first | ((with_reducible refine gate_dst (N:=13) rfl ?_);refine Kd.R_lit (Kd.int .i64) _ 2 ?hg (N:=13) ?hd (xs:=([]:List Int)) (inner:=[]) (ok:=fun _ => True) (okp:=fun _ => True) ?hr ?hp (fun _ hk => hk) trivial (Below.refl _ _) (Nat.le_refl _) (by simp) ?_;(case hd => rfl);(case hg => rfl);(case hr => exact q62_);(case hp => exact (Reps.none _ _));intro v288 w3 ho4 hb hg_ hnew_;clear hg_ hnew_;(first | rw [← Ny287.out] at ho4 | (simp only [Int.reduceToNat] at ho4;rw [← Ny287.out] at ho4));have n0_:=Aside0.mk (Kd.R_lower ho4 (below_size q20_));have n1_:=Aside0.mk (below_step q20_ hb);clear HB;have HO289:=n0_;have HB:=n1_;clear n0_ n1_;clear hb ho4)))
 go_loopg [6,7] k (fun kq v6 v7 w' => ∃ (x6_1:List Int) (x7_1:Int),v7 = .int .i64 x7_1 ∧ Aside0 (spec_l2Eval.l0 kq l0 l1 x6_1 x7_1 = some (r1,r2)) ∧ Aside0 (kq ≤ k) ∧ Aside0 (Kd.R (Kd.int .i64) 2 w' w.heap.size (fun _ => True) v6 x6_1) ∧ Aside0 (Below w.heap.size w w'))
 case atStart => exact ⟨(y287),(0),q25_,H',⟨Nat.le_refl _⟩,⟨by (with_reducible repeat (first | apply Kd.R_alloc | apply Kd.R_drewN | apply Kd.R_drew));exact HO289.out⟩,⟨q20_⟩⟩
 clear H'
 try clear c1
 try clear p2
 obtain ⟨x6_1,x7_1,rfl,HA,HK1,HO_6,HB⟩:=hrel
 cases gk with
 | zero => exact absurd HA.out (by simp [spec_l2Eval.l0])
 | succ k1 =>
  have H:=HA.out
  clear HA
  simp only [spec_l2Eval.l0] at H
  by_cases c5:x7_1 < (l0.length:Int)
  ·rw [if_pos c5] at H
   have c5b0:=decide_eq_true c5
   clear c5
   by_cases c6:0 ≤ x7_1
   rotate_left
   ·rw [if_neg c6] at H
    exact absurd H (by simp)
   rw [if_pos c6] at H
   have c6b0:=decide_eq_true c6
   clear c6
   by_cases c7:((rd_T45 l0 x7_1).f0) = 1
   ·rw [if_pos c7] at H
    have c7b0:(((rd_T45 l0 x7_1).f0) == 1) = true:=beq_iff_eq.mpr c7
    have c7b1:(((rd_T45 l0 x7_1).f0) != 1) = false:=bne_eq_false_iff_eq.mpr c7
    clear c7
    by_cases c8:x6_1.length < 17592186044416
    rotate_left
    ·rw [if_neg c8] at H
     exact absurd H (by simp)
    rw [if_pos c8] at H
    have LMc8:=Aside0.mk c8
    clear c8
    obtain ⟨y293,hy293⟩:∃ y_:List Int,y_ = (x6_1 ++ [(rd_T45 l0 x7_1).f1]):=⟨_,rfl⟩
    replace H:(spec_l2Eval.l0 k1 l0 l1 y293 (wrap64 (x7_1 + 1))) = some (r1,r2):=by first | (rw [hy293];exact H) | exact H
    have Ny293:=Aside0.mk hy293
    clear hy293
    have H':=Aside0.mk H
    clear H
    obtain ⟨Ao9,co9,eo9⟩:=Kd.R_slice HO_6.out
    subst eo9
    have p291:0 ≤ (x7_1:Int):=of_decide_eq_true q42_
    have q291:x7_1 < (l0.length:Int):=of_decide_eq_true q42_
    obtain ⟨ad291,e291,hx291_0,hx291_1,hx291_2⟩:=at_T45 HR0.out x7_1 p291 q291
    cases e291
    replace hx291_0:=(HB.out.cell (World.block_lt_of_cell? w _ hx291_0)).trans hx291_0
    replace hx291_1:=(HB.out.cell (World.block_lt_of_cell? w _ hx291_1)).trans hx291_1
    replace hx291_2:=(HB.out.cell (World.block_lt_of_cell? w _ hx291_2)).trans hx291_2
    replace p291:=eq_true p291
    replace q291:=eq_true q291
    have p292:0 ≤ (x7_1:Int):=of_decide_eq_true q42_
    have q292:x7_1 < (l0.length:Int):=of_decide_eq_true q42_
    obtain ⟨ad292,e292,hx292_0,hx292_1,hx292_2⟩:=at_T45 HR0.out x7_1 p292 q292
    obtain rfl:ad291 = ad292:=(by injection e292)
    replace hx292_0:=(HB.out.cell (World.block_lt_of_cell? w _ hx292_0)).trans hx292_0
    replace hx292_1:=(HB.out.cell (World.block_lt_of_cell? w _ hx292_1)).trans hx292_1
    replace hx292_2:=(HB.out.cell (World.block_lt_of_cell? w _ hx292_2)).trans hx292_2
    replace p292:=eq_true p292
    replace q292:=eq_true q292
    go_wp2_with (first | ((with_reducible refine gate_builtin (b:=.append) (xs:=#[.tmp 29,.tmp 35]) rfl ?_);at_builtin;refine Kd.R_append (Kd.int .i64) (w0:=w) w.heap.size rfl (.tmp 29) (.tmp 35) 57 2 (.int .i64 0) 8 rfl Try.underlying57 info2 rfl (by decide) (by omega) (.slice Ao9 x6_1.length co9) x6_1 ((rd_T45 l0 x7_1).f1) [.int .i64 ((rd_T45 l0 x7_1).f1)] (fun _ => True) (fun _ => False) rfl rfl ?aP (fun _ hk => hk.elim) ?aF ?aO ?aB ?aS ?aL ?_;(case aP => exact rfl);(case aB => exact q20_);(case aF => exact (fun _ _ => trivial));(case aO => exact q37_);(case aS => exact (below_size q20_));(case aL => have:=LMc8.out;omega);intro v294 w10 ho hb hg hat;rw [← Ny293.out] at ho;have n0_:=Aside0.mk (hb);have n1_:=Aside0.mk (ho);clear HB;clear HO_6;have HB:=n0_;have HO295:=n1_;clear n0_ n1_;clear ho hb hg hat))
    repeat (go_quiet (first | ((with_reducible refine gate_builtin (b:=.append) (xs:=#[.tmp 29,.tmp 35]) rfl ?_);at_builtin;refine Kd.R_append (Kd.int .i64) (w0:=w) w.heap.size rfl (.tmp 29) (.tmp 35) 57 2 (.int .i64 0) 8 rfl Try.underlying57 info2 rfl (by decide) (by omega) (.slice Ao9 x6_1.length co9) x6_1 ((rd_T45 l0 x7_1).f1) [.int .i64 ((rd_T45 l0 x7_1).f1)] (fun _ => True) (fun _ => False) rfl rfl ?aP (fun _ hk => hk.elim) ?aF ?aO ?aB ?aS ?aL ?_;(case aP => exact rfl);(case aB => exact q20_);(case aF => exact (fun _ _ => trivial));(case aO => exact q37_);(case aS => exact (below_size q20_));(case aL => have:=LMc8.out;omega);intro v294 w10 ho hb hg hat;rw [← Ny293.out] at ho;have n0_:=Aside0.mk (hb);have n1_:=Aside0.mk (ho);clear HB;clear HO_6;have HB:=n0_;have HO295:=n1_;clear n0_ n1_;clear ho hb hg hat));try go_wp2_with (first | ((with_reducible refine gate_builtin (b:=.append) (xs:=#[.tmp 29,.tmp 35]) rfl ?_);at_builtin;refine Kd.R_append (Kd.int .i64) (w0:=w) w.heap.size rfl (.tmp 29) (.tmp 35) 57 2 (.int .i64 0) 8 rfl Try.underlying57 info2 rfl (by decide) (by omega) (.slice Ao9 x6_1.length co9) x6_1 ((rd_T45 l0 x7_1).f1) [.int .i64 ((rd_T45 l0 x7_1).f1)] (fun _ => True) (fun _ => False) rfl rfl ?aP (fun _ hk => hk.elim) ?aF ?aO ?aB ?aS ?aL ?_;(case aP => exact rfl);(case aB => exact q20_);(case aF => exact (fun _ _ => trivial));(case aO => exact q37_);(case aS => exact (below_size q20_));(case aL => have:=LMc8.out;omega);intro v294 w10 ho hb hg hat;rw [← Ny293.out] at ho;have n0_:=Aside0.mk (hb);have n1_:=Aside0.mk (ho);clear HB;clear HO_6;have HB:=n0_;have HO295:=n1_;clear n0_ n1_;clear ho hb hg hat)))
    go_roundg k1
    case measure => have:=HK1.out;omega
    case rel => exact ⟨(y293),(wrap64 (x7_1 + 1)),q25_,H',⟨by have:=HK1.out;omega⟩,⟨by (with_reducible repeat (first | apply Kd.R_alloc | apply Kd.R_drewN | apply Kd.R_drew));exact HO295.out⟩,⟨q20_⟩⟩
   rw [if_neg c7] at H
   have c7b0:(((rd_T45 l0 x7_1).f0) == 1) = false:=beq_eq_false_iff_ne.mpr c7
   have c7b1:(((rd_T45 l0 x7_1).f0) != 1) = true:=bne_iff_ne.mpr c7
   have HC11:=Aside0.mk H
   clear H
   obtain ⟨Ao12,co12,eo12⟩:=Kd.R_slice HO_6.out
   subst eo12
   have p291:0 ≤ (x7_1:Int):=of_decide_eq_true q42_
   have q291:x7_1 < (l0.length:Int):=of_decide_eq_true q42_
   obtain ⟨ad291,e291,hx291_0,hx291_1,hx291_2⟩:=at_T45 HR0.out x7_1 p291 q291
   cases e291
   replace hx291_0:=(HB.out.cell (World.block_lt_of_cell? w _ hx291_0)).trans hx291_0
   replace hx291_1:=(HB.out.cell (World.block_lt_of_cell? w _ hx291_1)).trans hx291_1
   replace hx291_2:=(HB.out.cell (World.block_lt_of_cell? w _ hx291_2)).trans hx291_2
   replace p291:=eq_true p291
   replace q291:=eq_true q291
   go_upto_if 37 with (fail)
   repeat (go_quiet (fail);go_upto_if 37 with (fail))
   go_cut [37] (fun v37 wc => ∃ (kq:Nat) (x37_10:Bool),v37 = .bool x37_10 ∧ Aside0 (spec_l2Eval.j1 kq l0 l1 x6_1 x7_1 (x6_1.length:Int) ((rd_T45 l0 x7_1).f0) x37_10 = some (r1,r2)) ∧ Aside0 (kq ≤ k1) ∧ Aside0 (Kd.R (Kd.int .i64) 2 wc w.heap.size (fun _ => True) (.slice Ao12 x6_1.length co12) x6_1) ∧ Aside0 (Below w.heap.size w wc))
   case first =>
    have H:=HC11.out
    clear HC11
    by_cases c13:((rd_T45 l0 x7_1).f0) = 2
    ·rw [if_pos c13] at H
     have c13b0:(((rd_T45 l0 x7_1).f0) == 2) = true:=beq_iff_eq.mpr c13
     have c13b1:(((rd_T45 l0 x7_1).f0) != 2) = false:=bne_eq_false_iff_eq.mpr c13
     clear c13
     (first | rw [c13b0] | (simp only [i64_w,i32_w];rw [c13b0]) | rw [c13b9] | skip)
     have H':=Aside0.mk H
     clear H
     go_wp2
     repeat (go_quiet (fail);try go_wp2)
     go_meet
     case rel => exact ⟨_,((((rd_T45 l0 x7_1).f0) == 2)),q25_,H',⟨by have:=HK1.out;first | omega | exact Nat.le_refl _⟩,⟨q37_⟩,⟨q20_⟩⟩
    rw [if_neg c13] at H
    have c13b0:(((rd_T45 l0 x7_1).f0) == 2) = false:=beq_eq_false_iff_ne.mpr c13
    have c13b1:(((rd_T45 l0 x7_1).f0) != 2) = true:=bne_iff_ne.mpr c13
    (first | rw [c13b0] | (simp only [i64_w,i32_w];rw [c13b0]) | rw [c13b9] | skip)
    have H':=Aside0.mk H
    clear H
    go_wp2
    repeat (go_quiet (fail);try go_wp2)
    go_meet
    case rel => exact ⟨_,((((rd_T45 l0 x7_1).f0) == 3)),q25_,H',⟨by have:=HK1.out;first | omega | exact Nat.le_refl _⟩,⟨q37_⟩,⟨q20_⟩⟩
   clear HC11
   try clear c1
   try clear p2 p2
   try clear q2
   try clear hx2
   try clear c5
   try clear c5b0
   try clear c6
   try clear c6b0
   try clear p6
   try clear c7
   try clear c7b0
   try clear c7b1
   try clear c8
   try clear c13
   try clear c13b0
   try clear c13b1
   try clear hx291_0
   try clear hx291_1
   try clear hx291_2
   try clear hx292_0
   try clear hx292_1
   try clear hx292_2
   try clear p291
   try clear p292
   try clear q291
   try clear q292
   obtain ⟨kq,x37_10,rfl,HA,HJ10,HO_6,HB⟩:=hcut
   cases kq with
   | zero => exact absurd HA.out (by simp [spec_l2Eval.j1])
   | succ kj10 =>
    have H:=HA.out
    clear HA
    simp only [spec_l2Eval.j1] at H
    by_cases c14:x37_10 = true
    ·subst c14
     rewrite [if_pos rfl] at H
     by_cases c15:0 ≤ x7_1
     rotate_left
     ·rw [if_neg c15] at H
      exact absurd H (by simp)
     rw [if_pos c15] at H
     have c15b0:=decide_eq_true c15
     clear c15
     by_cases c16:x7_1 < (l0.length:Int)
     rotate_left
     ·rw [if_neg c16] at H
      exact absurd H (by simp)
     rw [if_pos c16] at H
     have c16b0:=decide_eq_true c16
     clear c16
     replace H:=Option.bind_eq_some_iff.mp H
     obtain ⟨t297,A170,H⟩:=H
     have A17:=Aside0.mk A170
     clear A170
     by_cases c18:t297 < 0
     ·rw [if_pos c18] at H
      have c18b0:=decide_eq_true c18
      clear c18
      simp only [Option.some.injEq,Prod.mk.injEq] at H
      obtain ⟨rfl,rfl⟩:=H
      have p296:0 ≤ (x7_1:Int):=of_decide_eq_true q42_
      have q296:x7_1 < (l0.length:Int):=of_decide_eq_true q42_
      obtain ⟨ad296,e296,hx296_0,hx296_1,hx296_2⟩:=at_T45 HR0.out x7_1 p296 q296
      obtain rfl:ad291 = ad296:=(by injection e296)
      replace hx296_0:=(HB.out.cell (World.block_lt_of_cell? w _ hx296_0)).trans hx296_0
      replace hx296_1:=(HB.out.cell (World.block_lt_of_cell? w _ hx296_1)).trans hx296_1
      replace hx296_2:=(HB.out.cell (World.block_lt_of_cell? w _ hx296_2)).trans hx296_2
      replace p296:=eq_true p296
      replace q296:=eq_true q296
      go_wp2_with (first | (go_at_call 29;(with_reducible refine (l2Sym_idx.calls kj10 _ _ l1 ((rd_T45 l0 x7_1).f2) t297 _ ?side1 ?side2 A17.out).mono ?_);(case side1 => exact q50_);(case side2 => exact HC1.out);rintro e w19 ⟨rfl,hb⟩;have n0_:=Aside0.mk (Kd.R_below q37_ hb);have n1_:=Aside0.mk (below_step q20_ hb);clear HO_6;clear HB;have HO_6:=n0_;have HB:=n1_;clear n0_ n1_;(try clear hb)))
      repeat (go_quiet (first | (go_at_call 29;(with_reducible refine (l2Sym_idx.calls kj10 _ _ l1 ((rd_T45 l0 x7_1).f2) t297 _ ?side1 ?side2 A17.out).mono ?_);(case side1 => exact q50_);(case side2 => exact HC1.out);rintro e w19 ⟨rfl,hb⟩;have n0_:=Aside0.mk (Kd.R_below q37_ hb);have n1_:=Aside0.mk (below_step q20_ hb);clear HO_6;clear HB;have HO_6:=n0_;have HB:=n1_;clear n0_ n1_;(try clear hb)));try go_wp2_with (first | (go_at_call 29;(with_reducible refine (l2Sym_idx.calls kj10 _ _ l1 ((rd_T45 l0 x7_1).f2) t297 _ ?side1 ?side2 A17.out).mono ?_);(case side1 => exact q50_);(case side2 => exact HC1.out);rintro e w19 ⟨rfl,hb⟩;have n0_:=Aside0.mk (Kd.R_below q37_ hb);have n1_:=Aside0.mk (below_step q20_ hb);clear HO_6;clear HB;have HO_6:=n0_;have HB:=n1_;clear n0_ n1_;(try clear hb))))
      go_ret2
      exact ⟨q21_,q20_⟩
     rw [if_neg c18] at H
     have c18b0:=decide_eq_false c18
     clear c18
     by_cases c20:0 ≤ t297
     rotate_left
     ·rw [if_neg c20] at H
      exact absurd H (by simp)
     rw [if_pos c20] at H
     have c20b0:=decide_eq_true c20
     clear c20
     by_cases c21:t297 < (l1.length:Int)
     rotate_left
     ·rw [if_neg c21] at H
      exact absurd H (by simp)
     rw [if_pos c21] at H
     have c21b0:=decide_eq_true c21
     clear c21
     by_cases c22:((rd_T45 l0 x7_1).f0) = 3
     ·rw [if_pos c22] at H
      have c22b0:(((rd_T45 l0 x7_1).f0) == 3) = true:=beq_iff_eq.mpr c22
      have c22b1:(((rd_T45 l0 x7_1).f0) != 3) = false:=bne_eq_false_iff_eq.mpr c22
      clear c22
      replace H:=Option.bind_eq_some_iff.mp H
      obtain ⟨t301,A230,H⟩:=H
      have A23:=Aside0.mk A230
      clear A230
      by_cases c24:x6_1.length < 17592186044416
      rotate_left
      ·rw [if_neg c24] at H
       exact absurd H (by simp)
      rw [if_pos c24] at H
      have LMc24:=Aside0.mk c24
      clear c24
      obtain ⟨y302,hy302⟩:∃ y_:List Int,y_ = (x6_1 ++ [t301]):=⟨_,rfl⟩
      replace H:(spec_l2Eval.l0 kj10 l0 l1 y302 (wrap64 (x7_1 + 1))) = some (r1,r2):=by first | (rw [hy302];exact H) | exact H
      have Ny302:=Aside0.mk hy302
      clear hy302
      have H':=Aside0.mk H
      clear H
      have p296:0 ≤ (x7_1:Int):=of_decide_eq_true q42_
      have q296:x7_1 < (l0.length:Int):=of_decide_eq_true q42_
      obtain ⟨ad296,e296,hx296_0,hx296_1,hx296_2⟩:=at_T45 HR0.out x7_1 p296 q296
      obtain rfl:ad291 = ad296:=(by injection e296)
      replace hx296_0:=(HB.out.cell (World.block_lt_of_cell? w _ hx296_0)).trans hx296_0
      replace hx296_1:=(HB.out.cell (World.block_lt_of_cell? w _ hx296_1)).trans hx296_1
      replace hx296_2:=(HB.out.cell (World.block_lt_of_cell? w _ hx296_2)).trans hx296_2
      replace p296:=eq_true p296
      replace q296:=eq_true q296
      go_wp2_with (first | (go_at_call 29;(with_reducible refine (l2Sym_idx.calls kj10 _ _ l1 ((rd_T45 l0 x7_1).f2) t297 _ ?side1 ?side2 A17.out).mono ?_);(case side1 => exact q50_);(case side2 => exact HC1.out);rintro e w25 ⟨rfl,hb⟩;have n0_:=Aside0.mk (Kd.R_below q37_ hb);have n1_:=Aside0.mk (below_step q20_ hb);clear HO_6;clear HB;have HO_6:=n0_;have HB:=n1_;clear n0_ n1_;(try clear hb);have p298:0 ≤ (t297:Int):=of_decide_eq_true q42_;have q298:t297 < (l1.length:Int):=of_decide_eq_true q42_;obtain ⟨ad298,e298,hx298_0,hx298_1,hx298_2⟩:=at_T33 HR1.out t297 p298 q298;cases e298;replace hx298_0:=(HB.out.cell (World.block_lt_of_cell? w _ hx298_0)).trans hx298_0;replace hx298_1:=(HB.out.cell (World.block_lt_of_cell? w _ hx298_1)).trans hx298_1;replace hx298_2:=(HB.out.cell (World.block_lt_of_cell? w _ hx298_2)).trans hx298_2;replace p298:=eq_true p298;replace q298:=eq_true q298;have p299:0 ≤ (x7_1:Int):=of_decide_eq_true q42_;have q299:x7_1 < (l0.length:Int):=of_decide_eq_true q42_;obtain ⟨ad299,e299,hx299_0,hx299_1,hx299_2⟩:=at_T45 HR0.out x7_1 p299 q299;obtain rfl:ad291 = ad299:=(by injection e299);replace hx299_0:=(HB.out.cell (World.block_lt_of_cell? w _ hx299_0)).trans hx299_0;replace hx299_1:=(HB.out.cell (World.block_lt_of_cell? w _ hx299_1)).trans hx299_1;replace hx299_2:=(HB.out.cell (World.block_lt_of_cell? w _ hx299_2)).trans hx299_2;replace p299:=eq_true p299;replace q299:=eq_true q299;have p300:0 ≤ (t297:Int):=of_decide_eq_true q42_;have q300:t297 < (l1.length:Int):=of_decide_eq_true q42_;obtain ⟨ad300,e300,hx300_0,hx300_1,hx300_2⟩:=at_T33 HR1.out t297 p300 q300;obtain rfl:ad298 = ad300:=(by injection e300);replace hx300_0:=(HB.out.cell (World.block_lt_of_cell? w _ hx300_0)).trans hx300_0;replace hx300_1:=(HB.out.cell (World.block_lt_of_cell? w _ hx300_1)).trans hx300_1;replace hx300_2:=(HB.out.cell (World.block_lt_of_cell? w _ hx300_2)).trans hx300_2;replace p300:=eq_true p300;replace q300:=eq_true q300) | (go_at_call 30;(with_reducible refine (spec_l2Wrap.calls ((rd_T33 l1 t297).f1) t301 _ A23.out).mono ?_);rintro e w' ⟨rfl,⟨nd,rfl⟩⟩;(try first | exact ⟨rfl,_,World.drewN_drewN _ _ _⟩ | exact ⟨rfl,_,Eq.trans (World.drewN_drewN _ _ _) (congrArg (World.drewN _) (Nat.add_assoc _ _ _))⟩)) | ((with_reducible refine gate_builtin (b:=.append) (xs:=#[.tmp 65,.tmp 68]) rfl ?_);at_builtin;refine Kd.R_append (Kd.int .i64) (w0:=w) w.heap.size rfl (.tmp 65) (.tmp 68) 57 2 (.int .i64 0) 8 rfl Try.underlying57 info2 rfl (by decide) (by omega) (.slice Ao12 x6_1.length co12) x6_1 t301 [.int .i64 t301] (fun _ => True) (fun _ => False) rfl rfl ?aP (fun _ hk => hk.elim) ?aF ?aO ?aB ?aS ?aL ?_;(case aP => exact rfl);(case aB => exact q20_);(case aF => exact (fun _ _ => trivial));(case aO => exact q37_);(case aS => exact (below_size q20_));(case aL => have:=LMc24.out;omega);intro v303 w26 ho hb hg hat;rw [← Ny302.out] at ho;have n0_:=Aside0.mk (hb);have n1_:=Aside0.mk (ho);clear HB;clear HO_6;have HB:=n0_;have HO304:=n1_;clear n0_ n1_;clear ho hb hg hat))
      repeat (go_quiet (first | (go_at_call 29;(with_reducible refine (l2Sym_idx.calls kj10 _ _ l1 ((rd_T45 l0 x7_1).f2) t297 _ ?side1 ?side2 A17.out).mono ?_);(case side1 => exact q50_);(case side2 => exact HC1.out);rintro e w25 ⟨rfl,hb⟩;have n0_:=Aside0.mk (Kd.R_below q37_ hb);have n1_:=Aside0.mk (below_step q20_ hb);clear HO_6;clear HB;have HO_6:=n0_;have HB:=n1_;clear n0_ n1_;(try clear hb);have p298:0 ≤ (t297:Int):=of_decide_eq_true q42_;have q298:t297 < (l1.length:Int):=of_decide_eq_true q42_;obtain ⟨ad298,e298,hx298_0,hx298_1,hx298_2⟩:=at_T33 HR1.out t297 p298 q298;cases e298;replace hx298_0:=(HB.out.cell (World.block_lt_of_cell? w _ hx298_0)).trans hx298_0;replace hx298_1:=(HB.out.cell (World.block_lt_of_cell? w _ hx298_1)).trans hx298_1;replace hx298_2:=(HB.out.cell (World.block_lt_of_cell? w _ hx298_2)).trans hx298_2;replace p298:=eq_true p298;replace q298:=eq_true q298;have p299:0 ≤ (x7_1:Int):=of_decide_eq_true q42_;have q299:x7_1 < (l0.length:Int):=of_decide_eq_true q42_;obtain ⟨ad299,e299,hx299_0,hx299_1,hx299_2⟩:=at_T45 HR0.out x7_1 p299 q299;obtain rfl:ad291 = ad299:=(by injection e299);replace hx299_0:=(HB.out.cell (World.block_lt_of_cell? w _ hx299_0)).trans hx299_0;replace hx299_1:=(HB.out.cell (World.block_lt_of_cell? w _ hx299_1)).trans hx299_1;replace hx299_2:=(HB.out.cell (World.block_lt_of_cell? w _ hx299_2)).trans hx299_2;replace p299:=eq_true p299;replace q299:=eq_true q299;have p300:0 ≤ (t297:Int):=of_decide_eq_true q42_;have q300:t297 < (l1.length:Int):=of_decide_eq_true q42_;obtain ⟨ad300,e300,hx300_0,hx300_1,hx300_2⟩:=at_T33 HR1.out t297 p300 q300;obtain rfl:ad298 = ad300:=(by injection e300);replace hx300_0:=(HB.out.cell (World.block_lt_of_cell? w _ hx300_0)).trans hx300_0;replace hx300_1:=(HB.out.cell (World.block_lt_of_cell? w _ hx300_1)).trans hx300_1;replace hx300_2:=(HB.out.cell (World.block_lt_of_cell? w _ hx300_2)).trans hx300_2;replace p300:=eq_true p300;replace q300:=eq_true q300) | (go_at_call 30;(with_reducible refine (spec_l2Wrap.calls ((rd_T33 l1 t297).f1) t301 _ A23.out).mono ?_);rintro e w' ⟨rfl,⟨nd,rfl⟩⟩;(try first | exact ⟨rfl,_,World.drewN_drewN _ _ _⟩ | exact ⟨rfl,_,Eq.trans (World.drewN_drewN _ _ _) (congrArg (World.drewN _) (Nat.add_assoc _ _ _))⟩)) | ((with_reducible refine gate_builtin (b:=.append) (xs:=#[.tmp 65,.tmp 68]) rfl ?_);at_builtin;refine Kd.R_append (Kd.int .i64) (w0:=w) w.heap.size rfl (.tmp 65) (.tmp 68) 57 2 (.int .i64 0) 8 rfl Try.underlying57 info2 rfl (by decide) (by omega) (.slice Ao12 x6_1.length co12) x6_1 t301 [.int .i64 t301] (fun _ => True) (fun _ => False) rfl rfl ?aP (fun _ hk => hk.elim) ?aF ?aO ?aB ?aS ?aL ?_;(case aP => exact rfl);(case aB => exact q20_);(case aF => exact (fun _ _ => trivial));(case aO => exact q37_);(case aS => exact (below_size q20_));(case aL => have:=LMc24.out;omega);intro v303 w26 ho hb hg hat;rw [← Ny302.out] at ho;have n0_:=Aside0.mk (hb);have n1_:=Aside0.mk (ho);clear HB;clear HO_6;have HB:=n0_;have HO304:=n1_;clear n0_ n1_;clear ho hb hg hat));try go_wp2_with (first | (go_at_call 29;(with_reducible refine (l2Sym_idx.calls kj10 _ _ l1 ((rd_T45 l0 x7_1).f2) t297 _ ?side1 ?side2 A17.out).mono ?_);(case side1 => exact q50_);(case side2 => exact HC1.out);rintro e w25 ⟨rfl,hb⟩;have n0_:=Aside0.mk (Kd.R_below q37_ hb);have n1_:=Aside0.mk (below_step q20_ hb);clear HO_6;clear HB;have HO_6:=n0_;have HB:=n1_;clear n0_ n1_;(try clear hb);have p298:0 ≤ (t297:Int):=of_decide_eq_true q42_;have q298:t297 < (l1.length:Int):=of_decide_eq_true q42_;obtain ⟨ad298,e298,hx298_0,hx298_1,hx298_2⟩:=at_T33 HR1.out t297 p298 q298;cases e298;replace hx298_0:=(HB.out.cell (World.block_lt_of_cell? w _ hx298_0)).trans hx298_0;replace hx298_1:=(HB.out.cell (World.block_lt_of_cell? w _ hx298_1)).trans hx298_1;replace hx298_2:=(HB.out.cell (World.block_lt_of_cell? w _ hx298_2)).trans hx298_2;replace p298:=eq_true p298;replace q298:=eq_true q298;have p299:0 ≤ (x7_1:Int):=of_decide_eq_true q42_;have q299:x7_1 < (l0.length:Int):=of_decide_eq_true q42_;obtain ⟨ad299,e299,hx299_0,hx299_1,hx299_2⟩:=at_T45 HR0.out x7_1 p299 q299;obtain rfl:ad291 = ad299:=(by injection e299);replace hx299_0:=(HB.out.cell (World.block_lt_of_cell? w _ hx299_0)).trans hx299_0;replace hx299_1:=(HB.out.cell (World.block_lt_of_cell? w _ hx299_1)).trans hx299_1;replace hx299_2:=(HB.out.cell (World.block_lt_of_cell? w _ hx299_2)).trans hx299_2;replace p299:=eq_true p299;replace q299:=eq_true q299;have p300:0 ≤ (t297:Int):=of_decide_eq_true q42_;have q300:t297 < (l1.length:Int):=of_decide_eq_true q42_;obtain ⟨ad300,e300,hx300_0,hx300_1,hx300_2⟩:=at_T33 HR1.out t297 p300 q300;obtain rfl:ad298 = ad300:=(by injection e300);replace hx300_0:=(HB.out.cell (World.block_lt_of_cell? w _ hx300_0)).trans hx300_0;replace hx300_1:=(HB.out.cell (World.block_lt_of_cell? w _ hx300_1)).trans hx300_1;replace hx300_2:=(HB.out.cell (World.block_lt_of_cell? w _ hx300_2)).trans hx300_2;replace p300:=eq_true p300;replace q300:=eq_true q300) | (go_at_call 30;(with_reducible refine (spec_l2Wrap.calls ((rd_T33 l1 t297).f1) t301 _ A23.out).mono ?_);rintro e w' ⟨rfl,⟨nd,rfl⟩⟩;(try first | exact ⟨rfl,_,World.drewN_drewN _ _ _⟩ | exact ⟨rfl,_,Eq.trans (World.drewN_drewN _ _ _) (congrArg (World.drewN _) (Nat.add_assoc _ _ _))⟩)) | ((with_reducible refine gate_builtin (b:=.append) (xs:=#[.tmp 65,.tmp 68]) rfl ?_);at_builtin;refine Kd.R_append (Kd.int .i64) (w0:=w) w.heap.size rfl (.tmp 65) (.tmp 68) 57 2 (.int .i64 0) 8 rfl Try.underlying57 info2 rfl (by decide) (by omega) (.slice Ao12 x6_1.length co12) x6_1 t301 [.int .i64 t301] (fun _ => True) (fun _ => False) rfl rfl ?aP (fun _ hk => hk.elim) ?aF ?aO ?aB ?aS ?aL ?_;(case aP => exact rfl);(case aB => exact q20_);(case aF => exact (fun _ _ => trivial));(case aO => exact q37_);(case aS => exact (below_size q20_));(case aL => have:=LMc24.out;omega);intro v303 w26 ho hb hg hat;rw [← Ny302.out] at ho;have n0_:=Aside0.mk (hb);have n1_:=Aside0.mk (ho);clear HB;clear HO_6;have HB:=n0_;have HO304:=n1_;clear n0_ n1_;clear ho hb hg hat)))
      go_roundg kj10
      case measure => have:=HK1.out;have:=HJ10.out;omega
      case rel => exact ⟨(y302),(wrap64 (x7_1 + 1)),q25_,H',⟨q43_⟩,⟨by (with_reducible repeat (first | apply Kd.R_alloc | apply Kd.R_drewN | apply Kd.R_drew));exact HO304.out⟩,⟨q20_⟩⟩
     rw [if_neg c22] at H
     have c22b0:(((rd_T45 l0 x7_1).f0) == 3) = false:=beq_eq_false_iff_ne.mpr c22
     have c22b1:(((rd_T45 l0 x7_1).f0) != 3) = true:=bne_iff_ne.mpr c22
     replace H:=Option.bind_eq_some_iff.mp H
     obtain ⟨t305,A270,H⟩:=H
     have A27:=Aside0.mk A270
     clear A270
     by_cases c28:x6_1.length < 17592186044416
     rotate_left
     ·rw [if_neg c28] at H
      exact absurd H (by simp)
     rw [if_pos c28] at H
     have LMc28:=Aside0.mk c28
     clear c28
     obtain ⟨y306,hy306⟩:∃ y_:List Int,y_ = (x6_1 ++ [t305]):=⟨_,rfl⟩
     replace H:(spec_l2Eval.l0 kj10 l0 l1 y306 (wrap64 (x7_1 + 1))) = some (r1,r2):=by first | (rw [hy306];exact H) | exact H
     have Ny306:=Aside0.mk hy306
     clear hy306
     have H':=Aside0.mk H
     clear H
     have p296:0 ≤ (x7_1:Int):=of_decide_eq_true q42_
     have q296:x7_1 < (l0.length:Int):=of_decide_eq_true q42_
     obtain ⟨ad296,e296,hx296_0,hx296_1,hx296_2⟩:=at_T45 HR0.out x7_1 p296 q296
     obtain rfl:ad291 = ad296:=(by injection e296)
     replace hx296_0:=(HB.out.cell (World.block_lt_of_cell? w _ hx296_0)).trans hx296_0
     replace hx296_1:=(HB.out.cell (World.block_lt_of_cell? w _ hx296_1)).trans hx296_1
     replace hx296_2:=(HB.out.cell (World.block_lt_of_cell? w _ hx296_2)).trans hx296_2
     replace p296:=eq_true p296
     replace q296:=eq_true q296
     go_wp2_with (first | (go_at_call 29;(with_reducible refine (l2Sym_idx.calls kj10 _ _ l1 ((rd_T45 l0 x7_1).f2) t297 _ ?side1 ?side2 A17.out).mono ?_);(case side1 => exact q50_);(case side2 => exact HC1.out);rintro e w29 ⟨rfl,hb⟩;have n0_:=Aside0.mk (Kd.R_below q37_ hb);have n1_:=Aside0.mk (below_step q20_ hb);clear HO_6;clear HB;have HO_6:=n0_;have HB:=n1_;clear n0_ n1_;(try clear hb);have p298:0 ≤ (t297:Int):=of_decide_eq_true q42_;have q298:t297 < (l1.length:Int):=of_decide_eq_true q42_;obtain ⟨ad298,e298,hx298_0,hx298_1,hx298_2⟩:=at_T33 HR1.out t297 p298 q298;cases e298;replace hx298_0:=(HB.out.cell (World.block_lt_of_cell? w _ hx298_0)).trans hx298_0;replace hx298_1:=(HB.out.cell (World.block_lt_of_cell? w _ hx298_1)).trans hx298_1;replace hx298_2:=(HB.out.cell (World.block_lt_of_cell? w _ hx298_2)).trans hx298_2;replace p298:=eq_true p298;replace q298:=eq_true q298;have p299:0 ≤ (x7_1:Int):=of_decide_eq_true q42_;have q299:x7_1 < (l0.length:Int):=of_decide_eq_true q42_;obtain ⟨ad299,e299,hx299_0,hx299_1,hx299_2⟩:=at_T45 HR0.out x7_1 p299 q299;obtain rfl:ad291 = ad299:=(by injection e299);replace hx299_0:=(HB.out.cell (World.block_lt_of_cell? w _ hx299_0)).trans hx299_0;replace hx299_1:=(HB.out.cell (World.block_lt_of_cell? w _ hx299_1)).trans hx299_1;replace hx299_2:=(HB.out.cell (World.block_lt_of_cell? w _ hx299_2)).trans hx299_2;replace p299:=eq_true p299;replace q299:=eq_true q299) | (go_at_call 30;(with_reducible refine (spec_l2Wrap.calls ((rd_T33 l1 t297).f2) t305 _ A27.out).mono ?_);rintro e w' ⟨rfl,⟨nd,rfl⟩⟩;(try first | exact ⟨rfl,_,World.drewN_drewN _ _ _⟩ | exact ⟨rfl,_,Eq.trans (World.drewN_drewN _ _ _) (congrArg (World.drewN _) (Nat.add_assoc _ _ _))⟩)) | ((with_reducible refine gate_builtin (b:=.append) (xs:=#[.tmp 65,.tmp 68]) rfl ?_);at_builtin;refine Kd.R_append (Kd.int .i64) (w0:=w) w.heap.size rfl (.tmp 65) (.tmp 68) 57 2 (.int .i64 0) 8 rfl Try.underlying57 info2 rfl (by decide) (by omega) (.slice Ao12 x6_1.length co12) x6_1 t305 [.int .i64 t305] (fun _ => True) (fun _ => False) rfl rfl ?aP (fun _ hk => hk.elim) ?aF ?aO ?aB ?aS ?aL ?_;(case aP => exact rfl);(case aB => exact q20_);(case aF => exact (fun _ _ => trivial));(case aO => exact q37_);(case aS => exact (below_size q20_));(case aL => have:=LMc28.out;omega);intro v307 w30 ho hb hg hat;rw [← Ny306.out] at ho;have n0_:=Aside0.mk (hb);have n1_:=Aside0.mk (ho);clear HB;clear HO_6;have HB:=n0_;have HO308:=n1_;clear n0_ n1_;clear ho hb hg hat))
     repeat (go_quiet (first | (go_at_call 29;(with_reducible refine (l2Sym_idx.calls kj10 _ _ l1 ((rd_T45 l0 x7_1).f2) t297 _ ?side1 ?side2 A17.out).mono ?_);(case side1 => exact q50_);(case side2 => exact HC1.out);rintro e w29 ⟨rfl,hb⟩;have n0_:=Aside0.mk (Kd.R_below q37_ hb);have n1_:=Aside0.mk (below_step q20_ hb);clear HO_6;clear HB;have HO_6:=n0_;have HB:=n1_;clear n0_ n1_;(try clear hb);have p298:0 ≤ (t297:Int):=of_decide_eq_true q42_;have q298:t297 < (l1.length:Int):=of_decide_eq_true q42_;obtain ⟨ad298,e298,hx298_0,hx298_1,hx298_2⟩:=at_T33 HR1.out t297 p298 q298;cases e298;replace hx298_0:=(HB.out.cell (World.block_lt_of_cell? w _ hx298_0)).trans hx298_0;replace hx298_1:=(HB.out.cell (World.block_lt_of_cell? w _ hx298_1)).trans hx298_1;replace hx298_2:=(HB.out.cell (World.block_lt_of_cell? w _ hx298_2)).trans hx298_2;replace p298:=eq_true p298;replace q298:=eq_true q298;have p299:0 ≤ (x7_1:Int):=of_decide_eq_true q42_;have q299:x7_1 < (l0.length:Int):=of_decide_eq_true q42_;obtain ⟨ad299,e299,hx299_0,hx299_1,hx299_2⟩:=at_T45 HR0.out x7_1 p299 q299;obtain rfl:ad291 = ad299:=(by injection e299);replace hx299_0:=(HB.out.cell (World.block_lt_of_cell? w _ hx299_0)).trans hx299_0;replace hx299_1:=(HB.out.cell (World.block_lt_of_cell? w _ hx299_1)).trans hx299_1;replace hx299_2:=(HB.out.cell (World.block_lt_of_cell? w _ hx299_2)).trans hx299_2;replace p299:=eq_true p299;replace q299:=eq_true q299) | (go_at_call 30;(with_reducible refine (spec_l2Wrap.calls ((rd_T33 l1 t297).f2) t305 _ A27.out).mono ?_);rintro e w' ⟨rfl,⟨nd,rfl⟩⟩;(try first | exact ⟨rfl,_,World.drewN_drewN _ _ _⟩ | exact ⟨rfl,_,Eq.trans (World.drewN_drewN _ _ _) (congrArg (World.drewN _) (Nat.add_assoc _ _ _))⟩)) | ((with_reducible refine gate_builtin (b:=.append) (xs:=#[.tmp 65,.tmp 68]) rfl ?_);at_builtin;refine Kd.R_append (Kd.int .i64) (w0:=w) w.heap.size rfl (.tmp 65) (.tmp 68) 57 2 (.int .i64 0) 8 rfl Try.underlying57 info2 rfl (by decide) (by omega) (.slice Ao12 x6_1.length co12) x6_1 t305 [.int .i64 t305] (fun _ => True) (fun _ => False) rfl rfl ?aP (fun _ hk => hk.elim) ?aF ?aO ?aB ?aS ?aL ?_;(case aP => exact rfl);(case aB => exact q20_);(case aF => exact (fun _ _ => trivial));(case aO => exact q37_);(case aS => exact (below_size q20_));(case aL => have:=LMc28.out;omega);intro v307 w30 ho hb hg hat;rw [← Ny306.out] at ho;have n0_:=Aside0.mk (hb);have n1_:=Aside0.mk (ho);clear HB;clear HO_6;have HB:=n0_;have HO308:=n1_;clear n0_ n1_;clear ho hb hg hat));try go_wp2_with (first | (go_at_call 29;(with_reducible refine (l2Sym_idx.calls kj10 _ _ l1 ((rd_T45 l0 x7_1).f2) t297 _ ?side1 ?side2 A17.out).mono ?_);(case side1 => exact q50_);(case side2 => exact HC1.out);rintro e w29 ⟨rfl,hb⟩;have n0_:=Aside0.mk (Kd.R_below q37_ hb);have n1_:=Aside0.mk (below_step q20_ hb);clear HO_6;clear HB;have HO_6:=n0_;have HB:=n1_;clear n0_ n1_;(try clear hb);have p298:0 ≤ (t297:Int):=of_decide_eq_true q42_;have q298:t297 < (l1.length:Int):=of_decide_eq_true q42_;obtain ⟨ad298,e298,hx298_0,hx298_1,hx298_2⟩:=at_T33 HR1.out t297 p298 q298;cases e298;replace hx298_0:=(HB.out.cell (World.block_lt_of_cell? w _ hx298_0)).trans hx298_0;replace hx298_1:=(HB.out.cell (World.block_lt_of_cell? w _ hx298_1)).trans hx298_1;replace hx298_2:=(HB.out.cell (World.block_lt_of_cell? w _ hx298_2)).trans hx298_2;replace p298:=eq_true p298;replace q298:=eq_true q298;have p299:0 ≤ (x7_1:Int):=of_decide_eq_true q42_;have q299:x7_1 < (l0.length:Int):=of_decide_eq_true q42_;obtain ⟨ad299,e299,hx299_0,hx299_1,hx299_2⟩:=at_T45 HR0.out x7_1 p299 q299;obtain rfl:ad291 = ad299:=(by injection e299);replace hx299_0:=(HB.out.cell (World.block_lt_of_cell? w _ hx299_0)).trans hx299_0;replace hx299_1:=(HB.out.cell (World.block_lt_of_cell? w _ hx299_1)).trans hx299_1;replace hx299_2:=(HB.out.cell (World.block_lt_of_cell? w _ hx299_2)).trans hx299_2;replace p299:=eq_true p299;replace q299:=eq_true q299) | (go_at_call 30;(with_reducible refine (spec_l2Wrap.calls ((rd_T33 l1 t297).f2) t305 _ A27.out).mono ?_);rintro e w' ⟨rfl,⟨nd,rfl⟩⟩;(try first | exact ⟨rfl,_,World.drewN_drewN _ _ _⟩ | exact ⟨rfl,_,Eq.trans (World.drewN_drewN _ _ _) (congrArg (World.drewN _) (Nat.add_assoc _ _ _))⟩)) | ((with_reducible refine gate_builtin (b:=.append) (xs:=#[.tmp 65,.tmp 68]) rfl ?_);at_builtin;refine Kd.R_append (Kd.int .i64) (w0:=w) w.heap.size rfl (.tmp 65) (.tmp 68) 57 2 (.int .i64 0) 8 rfl Try.underlying57 info2 rfl (by decide) (by omega) (.slice Ao12 x6_1.length co12) x6_1 t305 [.int .i64 t305] (fun _ => True) (fun _ => False) rfl rfl ?aP (fun _ hk => hk.elim) ?aF ?aO ?aB ?aS ?aL ?_;(case aP => exact rfl);(case aB => exact q20_);(case aF => exact (fun _ _ => trivial));(case aO => exact q37_);(case aS => exact (below_size q20_));(case aL => have:=LMc28.out;omega);intro v307 w30 ho hb hg hat;rw [← Ny306.out] at ho;have n0_:=Aside0.mk (hb);have n1_:=Aside0.mk (ho);clear HB;clear HO_6;have HB:=n0_;have HO308:=n1_;clear n0_ n1_;clear ho hb hg hat)))
     go_roundg kj10
     case measure => have:=HK1.out;have:=HJ10.out;omega
     case rel => exact ⟨(y306),(wrap64 (x7_1 + 1)),q25_,H',⟨q43_⟩,⟨by (with_reducible repeat (first | apply Kd.R_alloc | apply Kd.R_drewN | apply Kd.R_drew));exact HO308.out⟩,⟨q20_⟩⟩
    replace c14:=Bool.eq_false_iff.mpr c14
    subst c14
    rewrite [if_neg (show ¬ (false = true) by decide)] at H
    by_cases c31:((rd_T45 l0 x7_1).f0) = 4
    ·rw [if_pos c31] at H
     have c31b0:(((rd_T45 l0 x7_1).f0) == 4) = true:=beq_iff_eq.mpr c31
     have c31b1:(((rd_T45 l0 x7_1).f0) != 4) = false:=bne_eq_false_iff_eq.mpr c31
     clear c31
     obtain ⟨ji32,hji32⟩:∃ j_:Int,(wrap64 ((x6_1.length:Int) - 1)) = j_:=⟨_,rfl⟩
     (first | rewrite [hji32] at H | simp only [hji32] at H)
     have hji32w:(IntKind.i64.wrap ((x6_1.length:Int) - 1)) = ji32:=(i64_w _).trans hji32
     by_cases c33:0 ≤ (ji32)
     rotate_left
     ·rw [if_neg c33] at H
      exact absurd H (by simp)
     rw [if_pos c33] at H
     have c33b0:=decide_eq_true c33
     clear c33
     by_cases c34:(ji32) < (x6_1.length:Int)
     rotate_left
     ·rw [if_neg c34] at H
      exact absurd H (by simp)
     rw [if_pos c34] at H
     have c34b0:=decide_eq_true c34
     clear c34
     replace H:=Option.bind_eq_some_iff.mp H
     obtain ⟨t310,A350,H⟩:=H
     have A35:=Aside0.mk A350
     clear A350
     obtain ⟨y311,hy311⟩:∃ y_:List Int,y_ = (x6_1.set ((ji32):Int).toNat t310):=⟨_,rfl⟩
     replace H:(spec_l2Eval.l0 kj10 l0 l1 y311 (wrap64 (x7_1 + 1))) = some (r1,r2):=by first | (rw [hy311];exact H) | exact H
     have Ny311:=Aside0.mk hy311
     clear hy311
     have H':=Aside0.mk H
     clear H
     have p309:0 ≤ ((ji32):Int):=of_decide_eq_true q42_
     have q309:(ji32) < (x6_1.length:Int):=of_decide_eq_true q42_
     obtain ⟨ad309,e309,hx309_0⟩:=Kd.at_int (Kd.R_reads' HO_6.out).2.2 (ji32) p309 q309
     cases e309
     replace p309:=eq_true p309
     replace q309:=eq_true q309
     go_wp2_with (first | (go_at_call 30;(with_reducible refine (spec_l2Wrap.calls (wrap64 (-(rd x6_1 (ji32)))) t310 _ A35.out).mono ?_);rintro e w' ⟨rfl,⟨nd,rfl⟩⟩;(try first | exact ⟨rfl,_,World.drewN_drewN _ _ _⟩ | exact ⟨rfl,_,Eq.trans (World.drewN_drewN _ _ _) (congrArg (World.drewN _) (Nat.add_assoc _ _ _))⟩);have p36:0 ≤ ((ji32):Int):=of_decide_eq_true q42_;have q36:((ji32):Int) < ((x6_1.length:Int):Int):=of_decide_eq_true q42_;obtain ⟨go36,co36,eo36,gb36,gl36,cl36,HG36⟩:=Kd.R_form HO_6.out (by omega);(first | cases eo36 | (injection eo36 with ea_ en_ ec_;(first | subst ea_ | (injection ea_ with ea_;subst ea_));subst ec_;clear en_));have GB36:=Aside0.mk gb36;have GG36:=Aside0.mk HG36;clear gb36 gl36 HG36;(first | simp only [add_plain] at hx309_0 | skip);obtain ⟨hx36_0,hf36_0⟩:=Kd.R_celln 0 HO_6.out ((ji32):Int) p36 q36;replace p36:=eq_true p36;replace q36:=eq_true q36;obtain ⟨hy37_,hz37_⟩:=Kd.R_celln 0 HO_6.out ((ji32):Int) (of_decide_eq_true q42_) (of_decide_eq_true q42_);have HP37:=Kd.R_putg HO_6.out ((ji32):Int) t310) | ((with_reducible refine gate_store (t:=2) (p:=82) rfl ?_);(try (rw [drewN_self wc];generalize hq_:World.drewN wc _ = wc;have n0_:=Aside0.mk (Kd.R_at hq_ HO_6.out);have n1_:=Aside0.mk (below_at hq_ HB.out);clear hq_ HO_6 HB;have HO_6:=n0_;have HB:=n1_;clear n0_ n1_;(try (obtain ⟨hy37_,hz37_⟩:=Kd.R_celln 0 HO_6.out ((ji32):Int) (of_decide_eq_true q42_) (of_decide_eq_true q42_)));(try (have HP37:=Kd.R_putg HO_6.out ((ji32):Int) t310))));refine store_event (t:=2) (p:=82) (v:=?vo_w38) (w1:=(wc.setCell ⟨go36,((ji32):Int).toNat,none⟩ (.int .i64 t310))) ?hg ?ho ?hn ?hr ?_;(case ho => rfl);(case hg => rfl);(case hn => rfl);(case hr => exact q62_);intro w38 hw;have hg:wc.grownBy w38 (some go36):=(by rw [hw];exact HP37.2);have hp_:Kd.R (Kd.int .i64) 2 w38 w.heap.size (fun _ => True) (.slice (some ⟨go36,0,none⟩) x6_1.length co12) y311:=(by rw [hw,Ny311.out];exact HP37.1);clear HP37;have n0_:=Aside0.mk (hp_);have n1_:=Aside0.mk ((by rw [hw];exact below_set (HB.out) GB36.out:Below w.heap.size w w38));clear HO_6;clear HB;have HO_6:=n0_;have HB:=n1_;clear n0_ n1_;clear hg hw hp_))
     repeat (go_quiet (first | (go_at_call 30;(with_reducible refine (spec_l2Wrap.calls (wrap64 (-(rd x6_1 (ji32)))) t310 _ A35.out).mono ?_);rintro e w' ⟨rfl,⟨nd,rfl⟩⟩;(try first | exact ⟨rfl,_,World.drewN_drewN _ _ _⟩ | exact ⟨rfl,_,Eq.trans (World.drewN_drewN _ _ _) (congrArg (World.drewN _) (Nat.add_assoc _ _ _))⟩);have p36:0 ≤ ((ji32):Int):=of_decide_eq_true q42_;have q36:((ji32):Int) < ((x6_1.length:Int):Int):=of_decide_eq_true q42_;obtain ⟨go36,co36,eo36,gb36,gl36,cl36,HG36⟩:=Kd.R_form HO_6.out (by omega);(first | cases eo36 | (injection eo36 with ea_ en_ ec_;(first | subst ea_ | (injection ea_ with ea_;subst ea_));subst ec_;clear en_));have GB36:=Aside0.mk gb36;have GG36:=Aside0.mk HG36;clear gb36 gl36 HG36;(first | simp only [add_plain] at hx309_0 | skip);obtain ⟨hx36_0,hf36_0⟩:=Kd.R_celln 0 HO_6.out ((ji32):Int) p36 q36;replace p36:=eq_true p36;replace q36:=eq_true q36;obtain ⟨hy37_,hz37_⟩:=Kd.R_celln 0 HO_6.out ((ji32):Int) (of_decide_eq_true q42_) (of_decide_eq_true q42_);have HP37:=Kd.R_putg HO_6.out ((ji32):Int) t310) | ((with_reducible refine gate_store (t:=2) (p:=82) rfl ?_);(try (rw [drewN_self wc];generalize hq_:World.drewN wc _ = wc;have n0_:=Aside0.mk (Kd.R_at hq_ HO_6.out);have n1_:=Aside0.mk (below_at hq_ HB.out);clear hq_ HO_6 HB;have HO_6:=n0_;have HB:=n1_;clear n0_ n1_;(try (obtain ⟨hy37_,hz37_⟩:=Kd.R_celln 0 HO_6.out ((ji32):Int) (of_decide_eq_true q42_) (of_decide_eq_true q42_)));(try (have HP37:=Kd.R_putg HO_6.out ((ji32):Int) t310))));refine store_event (t:=2) (p:=82) (v:=?vo_w38) (w1:=(wc.setCell ⟨go36,((ji32):Int).toNat,none⟩ (.int .i64 t310))) ?hg ?ho ?hn ?hr ?_;(case ho => rfl);(case hg => rfl);(case hn => rfl);(case hr => exact q62_);intro w38 hw;have hg:wc.grownBy w38 (some go36):=(by rw [hw];exact HP37.2);have hp_:Kd.R (Kd.int .i64) 2 w38 w.heap.size (fun _ => True) (.slice (some ⟨go36,0,none⟩) x6_1.length co12) y311:=(by rw [hw,Ny311.out];exact HP37.1);clear HP37;have n0_:=Aside0.mk (hp_);have n1_:=Aside0.mk ((by rw [hw];exact below_set (HB.out) GB36.out:Below w.heap.size w w38));clear HO_6;clear HB;have HO_6:=n0_;have HB:=n1_;clear n0_ n1_;clear hg hw hp_));try go_wp2_with (first | (go_at_call 30;(with_reducible refine (spec_l2Wrap.calls (wrap64 (-(rd x6_1 (ji32)))) t310 _ A35.out).mono ?_);rintro e w' ⟨rfl,⟨nd,rfl⟩⟩;(try first | exact ⟨rfl,_,World.drewN_drewN _ _ _⟩ | exact ⟨rfl,_,Eq.trans (World.drewN_drewN _ _ _) (congrArg (World.drewN _) (Nat.add_assoc _ _ _))⟩);have p36:0 ≤ ((ji32):Int):=of_decide_eq_true q42_;have q36:((ji32):Int) < ((x6_1.length:Int):Int):=of_decide_eq_true q42_;obtain ⟨go36,co36,eo36,gb36,gl36,cl36,HG36⟩:=Kd.R_form HO_6.out (by omega);(first | cases eo36 | (injection eo36 with ea_ en_ ec_;(first | subst ea_ | (injection ea_ with ea_;subst ea_));subst ec_;clear en_));have GB36:=Aside0.mk gb36;have GG36:=Aside0.mk HG36;clear gb36 gl36 HG36;(first | simp only [add_plain] at hx309_0 | skip);obtain ⟨hx36_0,hf36_0⟩:=Kd.R_celln 0 HO_6.out ((ji32):Int) p36 q36;replace p36:=eq_true p36;replace q36:=eq_true q36;obtain ⟨hy37_,hz37_⟩:=Kd.R_celln 0 HO_6.out ((ji32):Int) (of_decide_eq_true q42_) (of_decide_eq_true q42_);have HP37:=Kd.R_putg HO_6.out ((ji32):Int) t310) | ((with_reducible refine gate_store (t:=2) (p:=82) rfl ?_);(try (rw [drewN_self wc];generalize hq_:World.drewN wc _ = wc;have n0_:=Aside0.mk (Kd.R_at hq_ HO_6.out);have n1_:=Aside0.mk (below_at hq_ HB.out);clear hq_ HO_6 HB;have HO_6:=n0_;have HB:=n1_;clear n0_ n1_;(try (obtain ⟨hy37_,hz37_⟩:=Kd.R_celln 0 HO_6.out ((ji32):Int) (of_decide_eq_true q42_) (of_decide_eq_true q42_)));(try (have HP37:=Kd.R_putg HO_6.out ((ji32):Int) t310))));refine store_event (t:=2) (p:=82) (v:=?vo_w38) (w1:=(wc.setCell ⟨go36,((ji32):Int).toNat,none⟩ (.int .i64 t310))) ?hg ?ho ?hn ?hr ?_;(case ho => rfl);(case hg => rfl);(case hn => rfl);(case hr => exact q62_);intro w38 hw;have hg:wc.grownBy w38 (some go36):=(by rw [hw];exact HP37.2);have hp_:Kd.R (Kd.int .i64) 2 w38 w.heap.size (fun _ => True) (.slice (some ⟨go36,0,none⟩) x6_1.length co12) y311:=(by rw [hw,Ny311.out];exact HP37.1);clear HP37;have n0_:=Aside0.mk (hp_);have n1_:=Aside0.mk ((by rw [hw];exact below_set (HB.out) GB36.out:Below w.heap.size w w38));clear HO_6;clear HB;have HO_6:=n0_;have HB:=n1_;clear n0_ n1_;clear hg hw hp_)))
     go_roundg kj10
     case measure => have:=HK1.out;have:=HJ10.out;omega
     case rel => exact ⟨(y311),(wrap64 (x7_1 + 1)),q25_,(by first | with_reducible exact H' | (have H2_:=H';simp only [← hji32] at H2_ ⊢;with_reducible exact H2_) | exact H'),⟨q43_⟩,⟨q37_⟩,⟨q20_⟩⟩
    rw [if_neg c31] at H
    have c31b0:(((rd_T45 l0 x7_1).f0) == 4) = false:=beq_eq_false_iff_ne.mpr c31
    have c31b1:(((rd_T45 l0 x7_1).f0) != 4) = true:=bne_iff_ne.mpr c31
    by_cases c39:((rd_T45 l0 x7_1).f0) = 5
    ·rw [if_pos c39] at H
     have c39b0:(((rd_T45 l0 x7_1).f0) == 5) = true:=beq_iff_eq.mpr c39
     have c39b1:(((rd_T45 l0 x7_1).f0) != 5) = false:=bne_eq_false_iff_eq.mpr c39
     clear c39
     obtain ⟨ji40,hji40⟩:∃ j_:Int,(wrap64 ((x6_1.length:Int) - 1)) = j_:=⟨_,rfl⟩
     (first | rewrite [hji40] at H | simp only [hji40] at H)
     have hji40w:(IntKind.i64.wrap ((x6_1.length:Int) - 1)) = ji40:=(i64_w _).trans hji40
     by_cases c41:0 ≤ (ji40)
     rotate_left
     ·rw [if_neg c41] at H
      exact absurd H (by simp)
     rw [if_pos c41] at H
     have c41b0:=decide_eq_true c41
     clear c41
     by_cases c42:(ji40) < (x6_1.length:Int)
     rotate_left
     ·rw [if_neg c42] at H
      exact absurd H (by simp)
     rw [if_pos c42] at H
     have c42b0:=decide_eq_true c42
     clear c42
     obtain ⟨y313,hy313⟩:∃ y_:List Int,y_ = (x6_1.set ((ji40):Int).toNat (Go.bits .xor .i64 (-1) (rd x6_1 (ji40)))):=⟨_,rfl⟩
     replace H:(spec_l2Eval.l0 kj10 l0 l1 y313 (wrap64 (x7_1 + 1))) = some (r1,r2):=by first | (rw [hy313];exact H) | exact H
     have Ny313:=Aside0.mk hy313
     clear hy313
     have H':=Aside0.mk H
     clear H
     have p312:0 ≤ ((ji40):Int):=of_decide_eq_true q42_
     have q312:(ji40) < (x6_1.length:Int):=of_decide_eq_true q42_
     obtain ⟨ad312,e312,hx312_0⟩:=Kd.at_int (Kd.R_reads' HO_6.out).2.2 (ji40) p312 q312
     cases e312
     replace p312:=eq_true p312
     replace q312:=eq_true q312
     have p43:0 ≤ ((ji40):Int):=of_decide_eq_true q42_
     have q43:((ji40):Int) < ((x6_1.length:Int):Int):=of_decide_eq_true q42_
     obtain ⟨go43,co43,eo43,gb43,gl43,cl43,HG43⟩:=Kd.R_form HO_6.out (by omega)
     (first | cases eo43 | (injection eo43 with ea_ en_ ec_;(first | subst ea_ | (injection ea_ with ea_;subst ea_));subst ec_;clear en_))
     have GB43:=Aside0.mk gb43
     have GG43:=Aside0.mk HG43
     clear gb43 gl43 HG43
     (first | simp only [add_plain] at hx312_0 | skip)
     obtain ⟨hx43_0,hf43_0⟩:=Kd.R_celln 0 HO_6.out ((ji40):Int) p43 q43
     replace p43:=eq_true p43
     replace q43:=eq_true q43
     have HP44:=Kd.R_putg HO_6.out ((ji40):Int) (Go.bits .xor .i64 (-1) (rd x6_1 (ji40)))
     go_wp2_with (first | ((with_reducible refine gate_store (t:=2) (p:=94) rfl ?_);(try (rw [drewN_self wc];generalize hq_:World.drewN wc _ = wc;have n0_:=Aside0.mk (Kd.R_at hq_ HO_6.out);have n1_:=Aside0.mk (below_at hq_ HB.out);clear hq_ HO_6 HB;have HO_6:=n0_;have HB:=n1_;clear n0_ n1_;(try (have HP44:=Kd.R_putg HO_6.out ((ji40):Int) (Go.bits .xor .i64 (-1) (rd x6_1 (ji40)))))));refine store_event (t:=2) (p:=94) (v:=?vo_w45) (w1:=(wc.setCell ⟨go43,((ji40):Int).toNat,none⟩ (.int .i64 (Go.bits .xor .i64 (-1) (rd x6_1 (ji40)))))) ?hg ?ho ?hn ?hr ?_;(case ho => rfl);(case hg => rfl);(case hn => rfl);(case hr => exact q62_);intro w45 hw;have hg:wc.grownBy w45 (some go43):=(by rw [hw];exact HP44.2);have hp_:Kd.R (Kd.int .i64) 2 w45 w.heap.size (fun _ => True) (.slice (some ⟨go43,0,none⟩) x6_1.length co12) y313:=(by rw [hw,Ny313.out];exact HP44.1);clear HP44;have n0_:=Aside0.mk (hp_);have n1_:=Aside0.mk ((by rw [hw];exact below_set (HB.out) GB43.out:Below w.heap.size w w45));clear HO_6;clear HB;have HO_6:=n0_;have HB:=n1_;clear n0_ n1_;clear hg hw hp_))
     repeat (go_quiet (first | ((with_reducible refine gate_store (t:=2) (p:=94) rfl ?_);(try (rw [drewN_self wc];generalize hq_:World.drewN wc _ = wc;have n0_:=Aside0.mk (Kd.R_at hq_ HO_6.out);have n1_:=Aside0.mk (below_at hq_ HB.out);clear hq_ HO_6 HB;have HO_6:=n0_;have HB:=n1_;clear n0_ n1_;(try (have HP44:=Kd.R_putg HO_6.out ((ji40):Int) (Go.bits .xor .i64 (-1) (rd x6_1 (ji40)))))));refine store_event (t:=2) (p:=94) (v:=?vo_w45) (w1:=(wc.setCell ⟨go43,((ji40):Int).toNat,none⟩ (.int .i64 (Go.bits .xor .i64 (-1) (rd x6_1 (ji40)))))) ?hg ?ho ?hn ?hr ?_;(case ho => rfl);(case hg => rfl);(case hn => rfl);(case hr => exact q62_);intro w45 hw;have hg:wc.grownBy w45 (some go43):=(by rw [hw];exact HP44.2);have hp_:Kd.R (Kd.int .i64) 2 w45 w.heap.size (fun _ => True) (.slice (some ⟨go43,0,none⟩) x6_1.length co12) y313:=(by rw [hw,Ny313.out];exact HP44.1);clear HP44;have n0_:=Aside0.mk (hp_);have n1_:=Aside0.mk ((by rw [hw];exact below_set (HB.out) GB43.out:Below w.heap.size w w45));clear HO_6;clear HB;have HO_6:=n0_;have HB:=n1_;clear n0_ n1_;clear hg hw hp_));try go_wp2_with (first | ((with_reducible refine gate_store (t:=2) (p:=94) rfl ?_);(try (rw [drewN_self wc];generalize hq_:World.drewN wc _ = wc;have n0_:=Aside0.mk (Kd.R_at hq_ HO_6.out);have n1_:=Aside0.mk (below_at hq_ HB.out);clear hq_ HO_6 HB;have HO_6:=n0_;have HB:=n1_;clear n0_ n1_;(try (have HP44:=Kd.R_putg HO_6.out ((ji40):Int) (Go.bits .xor .i64 (-1) (rd x6_1 (ji40)))))));refine store_event (t:=2) (p:=94) (v:=?vo_w45) (w1:=(wc.setCell ⟨go43,((ji40):Int).toNat,none⟩ (.int .i64 (Go.bits .xor .i64 (-1) (rd x6_1 (ji40)))))) ?hg ?ho ?hn ?hr ?_;(case ho => rfl);(case hg => rfl);(case hn => rfl);(case hr => exact q62_);intro w45 hw;have hg:wc.grownBy w45 (some go43):=(by rw [hw];exact HP44.2);have hp_:Kd.R (Kd.int .i64) 2 w45 w.heap.size (fun _ => True) (.slice (some ⟨go43,0,none⟩) x6_1.length co12) y313:=(by rw [hw,Ny313.out];exact HP44.1);clear HP44;have n0_:=Aside0.mk (hp_);have n1_:=Aside0.mk ((by rw [hw];exact below_set (HB.out) GB43.out:Below w.heap.size w w45));clear HO_6;clear HB;have HO_6:=n0_;have HB:=n1_;clear n0_ n1_;clear hg hw hp_)))
     go_roundg kj10
     case measure => have:=HK1.out;have:=HJ10.out;omega
     case rel => exact ⟨(y313),(wrap64 (x7_1 + 1)),q25_,(by first | with_reducible exact H' | (have H2_:=H';simp only [← hji40] at H2_ ⊢;with_reducible exact H2_) | exact H'),⟨q43_⟩,⟨q37_⟩,⟨q20_⟩⟩
    rw [if_neg c39] at H
    have c39b0:(((rd_T45 l0 x7_1).f0) == 5) = false:=beq_eq_false_iff_ne.mpr c39
    have c39b1:(((rd_T45 l0 x7_1).f0) != 5) = true:=bne_iff_ne.mpr c39
    by_cases c46:((rd_T45 l0 x7_1).f0) = 6
    ·rw [if_pos c46] at H
     have c46b0:(((rd_T45 l0 x7_1).f0) == 6) = true:=beq_iff_eq.mpr c46
     have c46b1:(((rd_T45 l0 x7_1).f0) != 6) = false:=bne_eq_false_iff_eq.mpr c46
     clear c46
     obtain ⟨ji47,hji47⟩:∃ j_:Int,(wrap64 ((x6_1.length:Int) - 1)) = j_:=⟨_,rfl⟩
     (first | rewrite [hji47] at H | simp only [hji47] at H)
     have hji47w:(IntKind.i64.wrap ((x6_1.length:Int) - 1)) = ji47:=(i64_w _).trans hji47
     by_cases c48:0 ≤ (ji47)
     rotate_left
     ·rw [if_neg c48] at H
      exact absurd H (by simp)
     rw [if_pos c48] at H
     have c48b0:=decide_eq_true c48
     clear c48
     by_cases c49:(ji47) < (x6_1.length:Int)
     rotate_left
     ·rw [if_neg c49] at H
      exact absurd H (by simp)
     rw [if_pos c49] at H
     have c49b0:=decide_eq_true c49
     clear c49
     obtain ⟨y315,hy315⟩:∃ y_:List Int,y_ = (x6_1.set ((ji47):Int).toNat (Go.bits .and .i64 ((rd x6_1 (ji47)) / 256) 255)):=⟨_,rfl⟩
     replace H:(spec_l2Eval.l0 kj10 l0 l1 y315 (wrap64 (x7_1 + 1))) = some (r1,r2):=by first | (rw [hy315];exact H) | exact H
     have Ny315:=Aside0.mk hy315
     clear hy315
     have H':=Aside0.mk H
     clear H
     have p314:0 ≤ ((ji47):Int):=of_decide_eq_true q42_
     have q314:(ji47) < (x6_1.length:Int):=of_decide_eq_true q42_
     obtain ⟨ad314,e314,hx314_0⟩:=Kd.at_int (Kd.R_reads' HO_6.out).2.2 (ji47) p314 q314
     cases e314
     replace p314:=eq_true p314
     replace q314:=eq_true q314
     have p50:0 ≤ ((ji47):Int):=of_decide_eq_true q42_
     have q50:((ji47):Int) < ((x6_1.length:Int):Int):=of_decide_eq_true q42_
     obtain ⟨go50,co50,eo50,gb50,gl50,cl50,HG50⟩:=Kd.R_form HO_6.out (by omega)
     (first | cases eo50 | (injection eo50 with ea_ en_ ec_;(first | subst ea_ | (injection ea_ with ea_;subst ea_));subst ec_;clear en_))
     have GB50:=Aside0.mk gb50
     have GG50:=Aside0.mk HG50
     clear gb50 gl50 HG50
     (first | simp only [add_plain] at hx314_0 | skip)
     obtain ⟨hx50_0,hf50_0⟩:=Kd.R_celln 0 HO_6.out ((ji47):Int) p50 q50
     replace p50:=eq_true p50
     replace q50:=eq_true q50
     have HP51:=Kd.R_putg HO_6.out ((ji47):Int) (Go.bits .and .i64 ((rd x6_1 (ji47)) / 256) 255)
     go_wp2_with (first | ((with_reducible refine gate_store (t:=2) (p:=107) rfl ?_);(try (rw [drewN_self wc];generalize hq_:World.drewN wc _ = wc;have n0_:=Aside0.mk (Kd.R_at hq_ HO_6.out);have n1_:=Aside0.mk (below_at hq_ HB.out);clear hq_ HO_6 HB;have HO_6:=n0_;have HB:=n1_;clear n0_ n1_;(try (have HP51:=Kd.R_putg HO_6.out ((ji47):Int) (Go.bits .and .i64 ((rd x6_1 (ji47)) / 256) 255)))));refine store_event (t:=2) (p:=107) (v:=?vo_w52) (w1:=(wc.setCell ⟨go50,((ji47):Int).toNat,none⟩ (.int .i64 (Go.bits .and .i64 ((rd x6_1 (ji47)) / 256) 255)))) ?hg ?ho ?hn ?hr ?_;(case ho => rfl);(case hg => rfl);(case hn => rfl);(case hr => exact q62_);intro w52 hw;have hg:wc.grownBy w52 (some go50):=(by rw [hw];exact HP51.2);have hp_:Kd.R (Kd.int .i64) 2 w52 w.heap.size (fun _ => True) (.slice (some ⟨go50,0,none⟩) x6_1.length co12) y315:=(by rw [hw,Ny315.out];exact HP51.1);clear HP51;have n0_:=Aside0.mk (hp_);have n1_:=Aside0.mk ((by rw [hw];exact below_set (HB.out) GB50.out:Below w.heap.size w w52));clear HO_6;clear HB;have HO_6:=n0_;have HB:=n1_;clear n0_ n1_;clear hg hw hp_))
     repeat (go_quiet (first | ((with_reducible refine gate_store (t:=2) (p:=107) rfl ?_);(try (rw [drewN_self wc];generalize hq_:World.drewN wc _ = wc;have n0_:=Aside0.mk (Kd.R_at hq_ HO_6.out);have n1_:=Aside0.mk (below_at hq_ HB.out);clear hq_ HO_6 HB;have HO_6:=n0_;have HB:=n1_;clear n0_ n1_;(try (have HP51:=Kd.R_putg HO_6.out ((ji47):Int) (Go.bits .and .i64 ((rd x6_1 (ji47)) / 256) 255)))));refine store_event (t:=2) (p:=107) (v:=?vo_w52) (w1:=(wc.setCell ⟨go50,((ji47):Int).toNat,none⟩ (.int .i64 (Go.bits .and .i64 ((rd x6_1 (ji47)) / 256) 255)))) ?hg ?ho ?hn ?hr ?_;(case ho => rfl);(case hg => rfl);(case hn => rfl);(case hr => exact q62_);intro w52 hw;have hg:wc.grownBy w52 (some go50):=(by rw [hw];exact HP51.2);have hp_:Kd.R (Kd.int .i64) 2 w52 w.heap.size (fun _ => True) (.slice (some ⟨go50,0,none⟩) x6_1.length co12) y315:=(by rw [hw,Ny315.out];exact HP51.1);clear HP51;have n0_:=Aside0.mk (hp_);have n1_:=Aside0.mk ((by rw [hw];exact below_set (HB.out) GB50.out:Below w.heap.size w w52));clear HO_6;clear HB;have HO_6:=n0_;have HB:=n1_;clear n0_ n1_;clear hg hw hp_));try go_wp2_with (first | ((with_reducible refine gate_store (t:=2) (p:=107) rfl ?_);(try (rw [drewN_self wc];generalize hq_:World.drewN wc _ = wc;have n0_:=Aside0.mk (Kd.R_at hq_ HO_6.out);have n1_:=Aside0.mk (below_at hq_ HB.out);clear hq_ HO_6 HB;have HO_6:=n0_;have HB:=n1_;clear n0_ n1_;(try (have HP51:=Kd.R_putg HO_6.out ((ji47):Int) (Go.bits .and .i64 ((rd x6_1 (ji47)) / 256) 255)))));refine store_event (t:=2) (p:=107) (v:=?vo_w52) (w1:=(wc.setCell ⟨go50,((ji47):Int).toNat,none⟩ (.int .i64 (Go.bits .and .i64 ((rd x6_1 (ji47)) / 256) 255)))) ?hg ?ho ?hn ?hr ?_;(case ho => rfl);(case hg => rfl);(case hn => rfl);(case hr => exact q62_);intro w52 hw;have hg:wc.grownBy w52 (some go50):=(by rw [hw];exact HP51.2);have hp_:Kd.R (Kd.int .i64) 2 w52 w.heap.size (fun _ => True) (.slice (some ⟨go50,0,none⟩) x6_1.length co12) y315:=(by rw [hw,Ny315.out];exact HP51.1);clear HP51;have n0_:=Aside0.mk (hp_);have n1_:=Aside0.mk ((by rw [hw];exact below_set (HB.out) GB50.out:Below w.heap.size w w52));clear HO_6;clear HB;have HO_6:=n0_;have HB:=n1_;clear n0_ n1_;clear hg hw hp_)))
     go_roundg kj10
     case measure => have:=HK1.out;have:=HJ10.out;omega
     case rel => exact ⟨(y315),(wrap64 (x7_1 + 1)),q25_,(by first | with_reducible exact H' | (have H2_:=H';simp only [← hji47] at H2_ ⊢;with_reducible exact H2_) | exact H'),⟨q43_⟩,⟨q37_⟩,⟨q20_⟩⟩
    rw [if_neg c46] at H
    have c46b0:(((rd_T45 l0 x7_1).f0) == 6) = false:=beq_eq_false_iff_ne.mpr c46
    have c46b1:(((rd_T45 l0 x7_1).f0) != 6) = true:=bne_iff_ne.mpr c46
    by_cases c53:((rd_T45 l0 x7_1).f0) = 7
    ·rw [if_pos c53] at H
     have c53b0:(((rd_T45 l0 x7_1).f0) == 7) = true:=beq_iff_eq.mpr c53
     have c53b1:(((rd_T45 l0 x7_1).f0) != 7) = false:=bne_eq_false_iff_eq.mpr c53
     clear c53
     obtain ⟨ji54,hji54⟩:∃ j_:Int,(wrap64 ((x6_1.length:Int) - 1)) = j_:=⟨_,rfl⟩
     (first | rewrite [hji54] at H | simp only [hji54] at H)
     have hji54w:(IntKind.i64.wrap ((x6_1.length:Int) - 1)) = ji54:=(i64_w _).trans hji54
     by_cases c55:0 ≤ (ji54)
     rotate_left
     ·rw [if_neg c55] at H
      exact absurd H (by simp)
     rw [if_pos c55] at H
     have c55b0:=decide_eq_true c55
     clear c55
     by_cases c56:(ji54) < (x6_1.length:Int)
     rotate_left
     ·rw [if_neg c56] at H
      exact absurd H (by simp)
     rw [if_pos c56] at H
     have c56b0:=decide_eq_true c56
     clear c56
     obtain ⟨y317,hy317⟩:∃ y_:List Int,y_ = (x6_1.set ((ji54):Int).toNat (Go.bits .and .i64 (rd x6_1 (ji54)) 255)):=⟨_,rfl⟩
     replace H:(spec_l2Eval.l0 kj10 l0 l1 y317 (wrap64 (x7_1 + 1))) = some (r1,r2):=by first | (rw [hy317];exact H) | exact H
     have Ny317:=Aside0.mk hy317
     clear hy317
     have H':=Aside0.mk H
     clear H
     have p316:0 ≤ ((ji54):Int):=of_decide_eq_true q42_
     have q316:(ji54) < (x6_1.length:Int):=of_decide_eq_true q42_
     obtain ⟨ad316,e316,hx316_0⟩:=Kd.at_int (Kd.R_reads' HO_6.out).2.2 (ji54) p316 q316
     cases e316
     replace p316:=eq_true p316
     replace q316:=eq_true q316
     have p57:0 ≤ ((ji54):Int):=of_decide_eq_true q42_
     have q57:((ji54):Int) < ((x6_1.length:Int):Int):=of_decide_eq_true q42_
     obtain ⟨go57,co57,eo57,gb57,gl57,cl57,HG57⟩:=Kd.R_form HO_6.out (by omega)
     (first | cases eo57 | (injection eo57 with ea_ en_ ec_;(first | subst ea_ | (injection ea_ with ea_;subst ea_));subst ec_;clear en_))
     have GB57:=Aside0.mk gb57
     have GG57:=Aside0.mk HG57
     clear gb57 gl57 HG57
     (first | simp only [add_plain] at hx316_0 | skip)
     obtain ⟨hx57_0,hf57_0⟩:=Kd.R_celln 0 HO_6.out ((ji54):Int) p57 q57
     replace p57:=eq_true p57
     replace q57:=eq_true q57
     have HP58:=Kd.R_putg HO_6.out ((ji54):Int) (Go.bits .and .i64 (rd x6_1 (ji54)) 255)
     go_wp2_with (first | ((with_reducible refine gate_store (t:=2) (p:=119) rfl ?_);(try (rw [drewN_self wc];generalize hq_:World.drewN wc _ = wc;have n0_:=Aside0.mk (Kd.R_at hq_ HO_6.out);have n1_:=Aside0.mk (below_at hq_ HB.out);clear hq_ HO_6 HB;have HO_6:=n0_;have HB:=n1_;clear n0_ n1_;(try (have HP58:=Kd.R_putg HO_6.out ((ji54):Int) (Go.bits .and .i64 (rd x6_1 (ji54)) 255)))));refine store_event (t:=2) (p:=119) (v:=?vo_w59) (w1:=(wc.setCell ⟨go57,((ji54):Int).toNat,none⟩ (.int .i64 (Go.bits .and .i64 (rd x6_1 (ji54)) 255)))) ?hg ?ho ?hn ?hr ?_;(case ho => rfl);(case hg => rfl);(case hn => rfl);(case hr => exact q62_);intro w59 hw;have hg:wc.grownBy w59 (some go57):=(by rw [hw];exact HP58.2);have hp_:Kd.R (Kd.int .i64) 2 w59 w.heap.size (fun _ => True) (.slice (some ⟨go57,0,none⟩) x6_1.length co12) y317:=(by rw [hw,Ny317.out];exact HP58.1);clear HP58;have n0_:=Aside0.mk (hp_);have n1_:=Aside0.mk ((by rw [hw];exact below_set (HB.out) GB57.out:Below w.heap.size w w59));clear HO_6;clear HB;have HO_6:=n0_;have HB:=n1_;clear n0_ n1_;clear hg hw hp_))
     repeat (go_quiet (first | ((with_reducible refine gate_store (t:=2) (p:=119) rfl ?_);(try (rw [drewN_self wc];generalize hq_:World.drewN wc _ = wc;have n0_:=Aside0.mk (Kd.R_at hq_ HO_6.out);have n1_:=Aside0.mk (below_at hq_ HB.out);clear hq_ HO_6 HB;have HO_6:=n0_;have HB:=n1_;clear n0_ n1_;(try (have HP58:=Kd.R_putg HO_6.out ((ji54):Int) (Go.bits .and .i64 (rd x6_1 (ji54)) 255)))));refine store_event (t:=2) (p:=119) (v:=?vo_w59) (w1:=(wc.setCell ⟨go57,((ji54):Int).toNat,none⟩ (.int .i64 (Go.bits .and .i64 (rd x6_1 (ji54)) 255)))) ?hg ?ho ?hn ?hr ?_;(case ho => rfl);(case hg => rfl);(case hn => rfl);(case hr => exact q62_);intro w59 hw;have hg:wc.grownBy w59 (some go57):=(by rw [hw];exact HP58.2);have hp_:Kd.R (Kd.int .i64) 2 w59 w.heap.size (fun _ => True) (.slice (some ⟨go57,0,none⟩) x6_1.length co12) y317:=(by rw [hw,Ny317.out];exact HP58.1);clear HP58;have n0_:=Aside0.mk (hp_);have n1_:=Aside0.mk ((by rw [hw];exact below_set (HB.out) GB57.out:Below w.heap.size w w59));clear HO_6;clear HB;have HO_6:=n0_;have HB:=n1_;clear n0_ n1_;clear hg hw hp_));try go_wp2_with (first | ((with_reducible refine gate_store (t:=2) (p:=119) rfl ?_);(try (rw [drewN_self wc];generalize hq_:World.drewN wc _ = wc;have n0_:=Aside0.mk (Kd.R_at hq_ HO_6.out);have n1_:=Aside0.mk (below_at hq_ HB.out);clear hq_ HO_6 HB;have HO_6:=n0_;have HB:=n1_;clear n0_ n1_;(try (have HP58:=Kd.R_putg HO_6.out ((ji54):Int) (Go.bits .and .i64 (rd x6_1 (ji54)) 255)))));refine store_event (t:=2) (p:=119) (v:=?vo_w59) (w1:=(wc.setCell ⟨go57,((ji54):Int).toNat,none⟩ (.int .i64 (Go.bits .and .i64 (rd x6_1 (ji54)) 255)))) ?hg ?ho ?hn ?hr ?_;(case ho => rfl);(case hg => rfl);(case hn => rfl);(case hr => exact q62_);intro w59 hw;have hg:wc.grownBy w59 (some go57):=(by rw [hw];exact HP58.2);have hp_:Kd.R (Kd.int .i64) 2 w59 w.heap.size (fun _ => True) (.slice (some ⟨go57,0,none⟩) x6_1.length co12) y317:=(by rw [hw,Ny317.out];exact HP58.1);clear HP58;have n0_:=Aside0.mk (hp_);have n1_:=Aside0.mk ((by rw [hw];exact below_set (HB.out) GB57.out:Below w.heap.size w w59));clear HO_6;clear HB;have HO_6:=n0_;have HB:=n1_;clear n0_ n1_;clear hg hw hp_)))
     go_roundg kj10
     case measure => have:=HK1.out;have:=HJ10.out;omega
     case rel => exact ⟨(y317),(wrap64 (x7_1 + 1)),q25_,(by first | with_reducible exact H' | (have H2_:=H';simp only [← hji54] at H2_ ⊢;with_reducible exact H2_) | exact H'),⟨q43_⟩,⟨q37_⟩,⟨q20_⟩⟩
    rw [if_neg c53] at H
    have c53b0:(((rd_T45 l0 x7_1).f0) == 7) = false:=beq_eq_false_iff_ne.mpr c53
    have c53b1:(((rd_T45 l0 x7_1).f0) != 7) = true:=bne_iff_ne.mpr c53
    by_cases c60:0 ≤ x7_1
    rotate_left
    ·rw [if_neg c60] at H
     exact absurd H (by simp)
    rw [if_pos c60] at H
    have c60b0:=decide_eq_true c60
    clear c60
    by_cases c61:x7_1 < (l0.length:Int)
    rotate_left
    ·rw [if_neg c61] at H
     exact absurd H (by simp)
    rw [if_pos c61] at H
    have c61b0:=decide_eq_true c61
    clear c61
    obtain ⟨ji62,hji62⟩:∃ j_:Int,(wrap64 ((x6_1.length:Int) - 2)) = j_:=⟨_,rfl⟩
    (first | rewrite [hji62] at H | simp only [hji62] at H)
    have hji62w:(IntKind.i64.wrap ((x6_1.length:Int) - 2)) = ji62:=(i64_w _).trans hji62
    by_cases c63:0 ≤ (ji62)
    rotate_left
    ·rw [if_neg c63] at H
     exact absurd H (by simp)
    rw [if_pos c63] at H
    have c63b0:=decide_eq_true c63
    clear c63
    by_cases c64:(ji62) < (x6_1.length:Int)
    rotate_left
    ·rw [if_neg c64] at H
     exact absurd H (by simp)
    rw [if_pos c64] at H
    have c64b0:=decide_eq_true c64
    clear c64
    obtain ⟨ji65,hji65⟩:∃ j_:Int,(wrap64 ((x6_1.length:Int) - 1)) = j_:=⟨_,rfl⟩
    (first | rewrite [hji65] at H | simp only [hji65] at H)
    have hji65w:(IntKind.i64.wrap ((x6_1.length:Int) - 1)) = ji65:=(i64_w _).trans hji65
    by_cases c66:0 ≤ (ji65)
    rotate_left
    ·rw [if_neg c66] at H
     exact absurd H (by simp)
    rw [if_pos c66] at H
    have c66b0:=decide_eq_true c66
    clear c66
    by_cases c67:(ji65) < (x6_1.length:Int)
    rotate_left
    ·rw [if_neg c67] at H
     exact absurd H (by simp)
    rw [if_pos c67] at H
    have c67b0:=decide_eq_true c67
    clear c67
    replace H:=Option.bind_eq_some_iff.mp H
    obtain ⟨⟨t321,t322⟩,A680,H⟩:=H
    try dsimp -simprocs -eta only at H
    have A68:=Aside0.mk A680
    clear A680
    by_cases c69:t322 = true
    ·subst c69
     rewrite [if_pos rfl] at H
     by_cases c70:(ji62) ≤ (x6_1.length:Int)
     rotate_left
     ·rw [if_neg c70] at H
      exact absurd H (by simp)
     rw [if_pos c70] at H
     have c70b0:=eq_true c70
     have c70b1:=decide_eq_true c70
     clear c70
     obtain ⟨y323,hy323⟩:∃ y_:List Int,y_ = (x6_1.take ((ji62):Int).toNat):=⟨_,rfl⟩
     replace H:(if y323.length < 17592186044416 then (spec_l2Eval.l0 kj10 l0 l1 (y323 ++ [t321]) (wrap64 (x7_1 + 1))) else (none)) = some (r1,r2):=by first | (rw [hy323];exact H) | exact H
     have Ny323:=Aside0.mk hy323
     clear hy323
     by_cases c71:y323.length < 17592186044416
     rotate_left
     ·rw [if_neg c71] at H
      exact absurd H (by simp)
     rw [if_pos c71] at H
     have LMc71:=Aside0.mk c71
     clear c71
     obtain ⟨y326,hy326⟩:∃ y_:List Int,y_ = (y323 ++ [t321]):=⟨_,rfl⟩
     replace H:(spec_l2Eval.l0 kj10 l0 l1 y326 (wrap64 (x7_1 + 1))) = some (r1,r2):=by first | (rw [hy326];exact H) | exact H
     have Ny326:=Aside0.mk hy326
     clear hy326
     have H':=Aside0.mk H
     clear H
     have p318:0 ≤ (x7_1:Int):=of_decide_eq_true q42_
     have q318:x7_1 < (l0.length:Int):=of_decide_eq_true q42_
     obtain ⟨ad318,e318,hx318_0,hx318_1,hx318_2⟩:=at_T45 HR0.out x7_1 p318 q318
     obtain rfl:ad291 = ad318:=(by injection e318)
     replace hx318_0:=(HB.out.cell (World.block_lt_of_cell? w _ hx318_0)).trans hx318_0
     replace hx318_1:=(HB.out.cell (World.block_lt_of_cell? w _ hx318_1)).trans hx318_1
     replace hx318_2:=(HB.out.cell (World.block_lt_of_cell? w _ hx318_2)).trans hx318_2
     replace p318:=eq_true p318
     replace q318:=eq_true q318
     have p319:0 ≤ ((ji62):Int):=of_decide_eq_true q42_
     have q319:(ji62) < (x6_1.length:Int):=of_decide_eq_true q42_
     obtain ⟨ad319,e319,hx319_0⟩:=Kd.at_int (Kd.R_reads' HO_6.out).2.2 (ji62) p319 q319
     cases e319
     replace p319:=eq_true p319
     replace q319:=eq_true q319
     have p320:0 ≤ ((ji65):Int):=of_decide_eq_true q42_
     have q320:(ji65) < (x6_1.length:Int):=of_decide_eq_true q42_
     obtain ⟨ad320,e320,hx320_0⟩:=Kd.at_int (Kd.R_reads' HO_6.out).2.2 (ji65) p320 q320
     obtain rfl:ad319 = ad320:=(by injection e320)
     replace p320:=eq_true p320
     replace q320:=eq_true q320
     go_wp2_with (first | (go_at_call 31;(with_reducible refine (spec_l2Two.calls ((rd_T45 l0 x7_1).f0) (rd x6_1 (ji62)) (rd x6_1 (ji65)) t321 true _ A68.out).mono ?_);rintro e w' ⟨rfl,⟨nd,rfl⟩⟩;(try first | exact ⟨rfl,_,World.drewN_drewN _ _ _⟩ | exact ⟨rfl,_,Eq.trans (World.drewN_drewN _ _ _) (congrArg (World.drewN _) (Nat.add_assoc _ _ _))⟩);have q72:((ji62):Int) ≤ ((x6_1.length:Int):Int):=of_decide_eq_true q42_;obtain ⟨i072,hi072,_,hsz72,_⟩:=info_parts info2;have hcut72:=cut_to (P:=Try.prog) 57 2 .i64 Try.underlying57 hi072 (some ad319) x6_1.length co12 (ji62) (of_decide_eq_true q42_) q72 (Kd.R_reads' HO_6.out).2.1;have hr72:=Kd.R_take (m:=((ji62):Int).toNat) HO_6.out (by omega);have hy72:y323.length = ((ji62):Int).toNat:=(by rw [Ny323.out,List.length_take];omega);rw [← Ny323.out] at hr72;rw [← hy72] at hr72 hcut72;clear hy72 hi072 hsz72 HO_6;have HO325:=Aside0.mk hr72;clear hr72;replace q72:=eq_true q72) | ((with_reducible refine gate_builtin (b:=.append) (xs:=#[.tmp 144,.tmp 146]) rfl ?_);at_builtin;refine Kd.R_append (Kd.int .i64) (w0:=w) w.heap.size rfl (.tmp 144) (.tmp 146) 57 2 (.int .i64 0) 8 rfl Try.underlying57 info2 rfl (by decide) (by omega) (.slice (some ad319) y323.length co12) y323 t321 [.int .i64 t321] (fun _ => True) (fun _ => False) rfl rfl ?aP (fun _ hk => hk.elim) ?aF ?aO ?aB ?aS ?aL ?_;(case aP => exact rfl);(case aB => exact q20_);(case aF => exact (fun _ _ => trivial));(case aO => exact q29_);(case aS => exact (below_size q20_));(case aL => have:=LMc71.out;omega);intro v327 w73 ho hb hg hat;rw [← Ny326.out] at ho;have n0_:=Aside0.mk (hb);have n1_:=Aside0.mk (ho);clear HB;clear HO325;have HB:=n0_;have HO328:=n1_;clear n0_ n1_;clear ho hb hg hat))
     repeat (go_quiet (first | (go_at_call 31;(with_reducible refine (spec_l2Two.calls ((rd_T45 l0 x7_1).f0) (rd x6_1 (ji62)) (rd x6_1 (ji65)) t321 true _ A68.out).mono ?_);rintro e w' ⟨rfl,⟨nd,rfl⟩⟩;(try first | exact ⟨rfl,_,World.drewN_drewN _ _ _⟩ | exact ⟨rfl,_,Eq.trans (World.drewN_drewN _ _ _) (congrArg (World.drewN _) (Nat.add_assoc _ _ _))⟩);have q72:((ji62):Int) ≤ ((x6_1.length:Int):Int):=of_decide_eq_true q42_;obtain ⟨i072,hi072,_,hsz72,_⟩:=info_parts info2;have hcut72:=cut_to (P:=Try.prog) 57 2 .i64 Try.underlying57 hi072 (some ad319) x6_1.length co12 (ji62) (of_decide_eq_true q42_) q72 (Kd.R_reads' HO_6.out).2.1;have hr72:=Kd.R_take (m:=((ji62):Int).toNat) HO_6.out (by omega);have hy72:y323.length = ((ji62):Int).toNat:=(by rw [Ny323.out,List.length_take];omega);rw [← Ny323.out] at hr72;rw [← hy72] at hr72 hcut72;clear hy72 hi072 hsz72 HO_6;have HO325:=Aside0.mk hr72;clear hr72;replace q72:=eq_true q72) | ((with_reducible refine gate_builtin (b:=.append) (xs:=#[.tmp 144,.tmp 146]) rfl ?_);at_builtin;refine Kd.R_append (Kd.int .i64) (w0:=w) w.heap.size rfl (.tmp 144) (.tmp 146) 57 2 (.int .i64 0) 8 rfl Try.underlying57 info2 rfl (by decide) (by omega) (.slice (some ad319) y323.length co12) y323 t321 [.int .i64 t321] (fun _ => True) (fun _ => False) rfl rfl ?aP (fun _ hk => hk.elim) ?aF ?aO ?aB ?aS ?aL ?_;(case aP => exact rfl);(case aB => exact q20_);(case aF => exact (fun _ _ => trivial));(case aO => exact q29_);(case aS => exact (below_size q20_));(case aL => have:=LMc71.out;omega);intro v327 w73 ho hb hg hat;rw [← Ny326.out] at ho;have n0_:=Aside0.mk (hb);have n1_:=Aside0.mk (ho);clear HB;clear HO325;have HB:=n0_;have HO328:=n1_;clear n0_ n1_;clear ho hb hg hat));try go_wp2_with (first | (go_at_call 31;(with_reducible refine (spec_l2Two.calls ((rd_T45 l0 x7_1).f0) (rd x6_1 (ji62)) (rd x6_1 (ji65)) t321 true _ A68.out).mono ?_);rintro e w' ⟨rfl,⟨nd,rfl⟩⟩;(try first | exact ⟨rfl,_,World.drewN_drewN _ _ _⟩ | exact ⟨rfl,_,Eq.trans (World.drewN_drewN _ _ _) (congrArg (World.drewN _) (Nat.add_assoc _ _ _))⟩);have q72:((ji62):Int) ≤ ((x6_1.length:Int):Int):=of_decide_eq_true q42_;obtain ⟨i072,hi072,_,hsz72,_⟩:=info_parts info2;have hcut72:=cut_to (P:=Try.prog) 57 2 .i64 Try.underlying57 hi072 (some ad319) x6_1.length co12 (ji62) (of_decide_eq_true q42_) q72 (Kd.R_reads' HO_6.out).2.1;have hr72:=Kd.R_take (m:=((ji62):Int).toNat) HO_6.out (by omega);have hy72:y323.length = ((ji62):Int).toNat:=(by rw [Ny323.out,List.length_take];omega);rw [← Ny323.out] at hr72;rw [← hy72] at hr72 hcut72;clear hy72 hi072 hsz72 HO_6;have HO325:=Aside0.mk hr72;clear hr72;replace q72:=eq_true q72) | ((with_reducible refine gate_builtin (b:=.append) (xs:=#[.tmp 144,.tmp 146]) rfl ?_);at_builtin;refine Kd.R_append (Kd.int .i64) (w0:=w) w.heap.size rfl (.tmp 144) (.tmp 146) 57 2 (.int .i64 0) 8 rfl Try.underlying57 info2 rfl (by decide) (by omega) (.slice (some ad319) y323.length co12) y323 t321 [.int .i64 t321] (fun _ => True) (fun _ => False) rfl rfl ?aP (fun _ hk => hk.elim) ?aF ?aO ?aB ?aS ?aL ?_;(case aP => exact rfl);(case aB => exact q20_);(case aF => exact (fun _ _ => trivial));(case aO => exact q29_);(case aS => exact (below_size q20_));(case aL => have:=LMc71.out;omega);intro v327 w73 ho hb hg hat;rw [← Ny326.out] at ho;have n0_:=Aside0.mk (hb);have n1_:=Aside0.mk (ho);clear HB;clear HO325;have HB:=n0_;have HO328:=n1_;clear n0_ n1_;clear ho hb hg hat)))
     go_roundg kj10
     case measure => have:=HK1.out;have:=HJ10.out;omega
     case rel => exact ⟨(y326),(wrap64 (x7_1 + 1)),q25_,(by first | with_reducible exact H' | (have H2_:=H';simp only [← hji62,← hji65] at H2_ ⊢;with_reducible exact H2_) | exact H'),⟨q43_⟩,⟨by (with_reducible repeat (first | apply Kd.R_alloc | apply Kd.R_drewN | apply Kd.R_drew));exact HO328.out⟩,⟨q20_⟩⟩
    replace c69:=Bool.eq_false_iff.mpr c69
    subst c69
    rewrite [if_neg (show ¬ (false = true) by decide)] at H
    simp only [Option.some.injEq,Prod.mk.injEq] at H
    obtain ⟨rfl,rfl⟩:=H
    have p318:0 ≤ (x7_1:Int):=of_decide_eq_true q42_
    have q318:x7_1 < (l0.length:Int):=of_decide_eq_true q42_
    obtain ⟨ad318,e318,hx318_0,hx318_1,hx318_2⟩:=at_T45 HR0.out x7_1 p318 q318
    obtain rfl:ad291 = ad318:=(by injection e318)
    replace hx318_0:=(HB.out.cell (World.block_lt_of_cell? w _ hx318_0)).trans hx318_0
    replace hx318_1:=(HB.out.cell (World.block_lt_of_cell? w _ hx318_1)).trans hx318_1
    replace hx318_2:=(HB.out.cell (World.block_lt_of_cell? w _ hx318_2)).trans hx318_2
    replace p318:=eq_true p318
    replace q318:=eq_true q318
    have p319:0 ≤ ((ji62):Int):=of_decide_eq_true q42_
    have q319:(ji62) < (x6_1.length:Int):=of_decide_eq_true q42_
    obtain ⟨ad319,e319,hx319_0⟩:=Kd.at_int (Kd.R_reads' HO_6.out).2.2 (ji62) p319 q319
    cases e319
    replace p319:=eq_true p319
    replace q319:=eq_true q319
    have p320:0 ≤ ((ji65):Int):=of_decide_eq_true q42_
    have q320:(ji65) < (x6_1.length:Int):=of_decide_eq_true q42_
    obtain ⟨ad320,e320,hx320_0⟩:=Kd.at_int (Kd.R_reads' HO_6.out).2.2 (ji65) p320 q320
    obtain rfl:ad319 = ad320:=(by injection e320)
    replace p320:=eq_true p320
    replace q320:=eq_true q320
    go_wp2_with (first | (go_at_call 31;(with_reducible refine (spec_l2Two.calls ((rd_T45 l0 x7_1).f0) (rd x6_1 (ji62)) (rd x6_1 (ji65)) t321 false _ A68.out).mono ?_);rintro e w' ⟨rfl,⟨nd,rfl⟩⟩;(try first | exact ⟨rfl,_,World.drewN_drewN _ _ _⟩ | exact ⟨rfl,_,Eq.trans (World.drewN_drewN _ _ _) (congrArg (World.drewN _) (Nat.add_assoc _ _ _))⟩)))
    repeat (go_quiet (first | (go_at_call 31;(with_reducible refine (spec_l2Two.calls ((rd_T45 l0 x7_1).f0) (rd x6_1 (ji62)) (rd x6_1 (ji65)) t321 false _ A68.out).mono ?_);rintro e w' ⟨rfl,⟨nd,rfl⟩⟩;(try first | exact ⟨rfl,_,World.drewN_drewN _ _ _⟩ | exact ⟨rfl,_,Eq.trans (World.drewN_drewN _ _ _) (congrArg (World.drewN _) (Nat.add_assoc _ _ _))⟩)));try go_wp2_with (first | (go_at_call 31;(with_reducible refine (spec_l2Two.calls ((rd_T45 l0 x7_1).f0) (rd x6_1 (ji62)) (rd x6_1 (ji65)) t321 false _ A68.out).mono ?_);rintro e w' ⟨rfl,⟨nd,rfl⟩⟩;(try first | exact ⟨rfl,_,World.drewN_drewN _ _ _⟩ | exact ⟨rfl,_,Eq.trans (World.drewN_drewN _ _ _) (congrArg (World.drewN _) (Nat.add_assoc _ _ _))⟩))))
    go_ret2
    exact ⟨by first | rfl | (simp [errW_none,errW_some] <;> rfl) | (simp only [← hji62,← hji65];first | rfl | (simp [errW_none,errW_some] <;> rfl)) | (simp [*,errW_none,errW_some] <;> rfl) | (exfalso;simp_all;done),q20_⟩
  rw [if_neg c5] at H
  have c5b0:=decide_eq_false c5
  clear c5
  by_cases c74:0 < (x6_1.length:Int)
  rotate_left
  ·rw [if_neg c74] at H
   exact absurd H (by simp)
  rw [if_pos c74] at H
  have c74b0:=decide_eq_true c74
  have c74b1:decide (0 < x6_1.length) = true:=decide_eq_true (by omega)
  clear c74
  simp only [Option.some.injEq,Prod.mk.injEq] at H
  obtain ⟨rfl,rfl⟩:=H
  obtain ⟨Ao75,co75,eo75⟩:=Kd.R_slice HO_6.out
  subst eo75
  have p290:0 ≤ (0:Int):=(by omega)
  have q290:0 < (x6_1.length:Int):=of_decide_eq_true q42_
  obtain ⟨ad290,e290,hx290_0⟩:=Kd.at_int (Kd.R_reads' HO_6.out).2.2 0 p290 q290
  cases e290
  have qi290:(0 < x6_1.length) = True:=eq_true (by omega)
  (try rw [show ((0:Int)).toNat = 0 from rfl] at hx290_0)
  (try rw [Addr.add_zero'] at hx290_0)
  replace p290:=eq_true p290
  replace q290:=eq_true q290
  go_wp2
  repeat (go_quiet (fail);try go_wp2)
  go_ret2
  exact ⟨q21_,q20_⟩
def spec_EvalExpr.f (k:Nat) (l0:List (S45)) (l1:List (S33)):Option (Int × Int):=(spec_ExprOk.f k l0).bind fun t329 => (if t329 = true then (if (l1.length:Int) > 200 then (some (0,1)) else ((spec_l2Eval.f k l0 l1).bind fun bt330 => (some (bt330.1,bt330.2)))) else (some (0,1)))
theorem spec_EvalExpr.mono:∀ a0 a1 k,LeO (spec_EvalExpr.f k a0 a1) (spec_EvalExpr.f (k + 1) a0 a1):=by
 intro a0 a1 k
 unfold spec_EvalExpr.f
 repeat' first
   | (with_reducible first | exact spec_ExprOk.mono _ _ | exact spec_l2Eval.mono _ _ _ | exact LeO.refl _ | exact LeO.none _ | refine LeO.ite ?_ ?_ | refine LeO.bind ?_ (fun _ => ?_))
   | exact spec_ExprOk.mono _ _
   | exact spec_l2Eval.mono _ _ _
   | exact LeO.none _
   | refine LeO.ite ?_ ?_
   | refine LeO.bind ?_ (fun _ => ?_)
theorem spec_EvalExpr.calls (k:Nat) (A0:Option Addr) (c0:Nat) (l0:List (S45)) (A1:Option Addr) (c1:Nat) (l1:List (S33)) (r1:Int) (r2:Int) (w:World) (hr0:Kd.C k45 w A0 l0.length l0) (hc0:l0.length ≤ c0) (hr1:Kd.C k33 w A1 l1.length l1) (hc1:l1.length ≤ c1) (h:spec_EvalExpr.f k l0 l1 = some (r1,r2)) :
  Calls Try.prog 7 #[.slice A0 l0.length c0,.slice A1 l1.length c1] w fun e w' => e = .returned (.tuple #[.int .i64 r1,.int .i64 r2]) ∧ Below w.heap.size w w':=by
 have HR0:=Aside0.mk hr0
 have HC0:=Aside0.mk hc0
 clear hr0 hc0
 have HR1:=Aside0.mk hr1
 have HC1:=Aside0.mk hc1
 clear hr1 hc1
 have HB:=Aside0.mk (Below.refl w.heap.size w)
 have H:=h;unfold spec_EvalExpr.f at H
 clear h
 replace H:=Option.bind_eq_some_iff.mp H
 obtain ⟨t329,A30,H⟩:=H
 have A3:=Aside0.mk A30
 clear A30
 by_cases c4:t329 = true
 ·subst c4
  rewrite [if_pos rfl] at H
  by_cases c5:(l1.length:Int) > 200
  ·rw [if_pos c5] at H
   have c5b0:decide (200 < (l1.length:Int)) = true:=decide_eq_true c5
   have c5b1:decide (200 < l1.length) = true:=decide_eq_true (by omega)
   clear c5
   simp only [Option.some.injEq,Prod.mk.injEq] at H
   obtain ⟨rfl,rfl⟩:=H
   go_enter Try.func7,Try.ntmps7
   go_wp2_with (first | ((with_reducible refine gate_callee (f:=14) rfl ?_);refine goesL_ (some 7) rfl rfl Try.func14 (by kernel_rfl) rfl #[.slice A0 l0.length c0] rfl q18_ ?_;(with_reducible refine (spec_ExprOk.calls k _ _ l0 true _ ?side1 ?side2 A3.out).mono ?_);(case side1 => exact q58_);(case side2 => exact HC0.out);rintro e w6 ⟨rfl,hb⟩;refine ⟨_,rfl,?_⟩;replace HB:=Aside0.mk (below_step q20_ hb);(try clear hb)))
   go_ret2
   exact ⟨q21_,q20_⟩
  rw [if_neg c5] at H
  have c5b0:decide (200 < (l1.length:Int)) = false:=decide_eq_false c5
  have c5b1:decide (200 < l1.length) = false:=decide_eq_false (by omega)
  clear c5
  replace H:=Option.bind_eq_some_iff.mp H
  obtain ⟨⟨t330,t331⟩,A70,H⟩:=H
  try dsimp -simprocs -eta only at H
  have A7:=Aside0.mk A70
  clear A70
  simp only [Option.some.injEq,Prod.mk.injEq] at H
  obtain ⟨rfl,rfl⟩:=H
  go_enter Try.func7,Try.ntmps7
  go_wp2_with (first | ((with_reducible refine gate_callee (f:=14) rfl ?_);refine goesL_ (some 7) rfl rfl Try.func14 (by kernel_rfl) rfl #[.slice A0 l0.length c0] rfl q18_ ?_;(with_reducible refine (spec_ExprOk.calls k _ _ l0 true _ ?side1 ?side2 A3.out).mono ?_);(case side1 => exact q58_);(case side2 => exact HC0.out);rintro e w8 ⟨rfl,hb⟩;refine ⟨_,rfl,?_⟩;replace HB:=Aside0.mk (below_step q20_ hb);(try clear hb)) | ((with_reducible refine gate_callee (f:=15) rfl ?_);refine goesL_ (some 16) rfl rfl Try.func15 (by kernel_rfl) rfl #[.slice A0 l0.length c0,.slice A1 l1.length c1] rfl q18_ ?_;(with_reducible refine (spec_l2Eval.calls k _ _ l0 _ _ l1 t330 t331 _ ?side1 ?side2 ?side3 ?side4 A7.out).mono ?_);(case side1 => exact q49_);(case side2 => exact HC0.out);(case side3 => exact q50_);(case side4 => exact HC1.out);rintro e w9 ⟨rfl,hb⟩;refine ⟨_,rfl,?_⟩;replace HB:=Aside0.mk (below_step q20_ hb);(try clear hb)))
  go_ret2
  exact ⟨q21_,q20_⟩
 replace c4:=Bool.eq_false_iff.mpr c4
 subst c4
 rewrite [if_neg (show ¬ (false = true) by decide)] at H
 simp only [Option.some.injEq,Prod.mk.injEq] at H
 obtain ⟨rfl,rfl⟩:=H
 go_enter Try.func7,Try.ntmps7
 go_wp2_with (first | ((with_reducible refine gate_callee (f:=14) rfl ?_);refine goesL_ (some 7) rfl rfl Try.func14 (by kernel_rfl) rfl #[.slice A0 l0.length c0] rfl q18_ ?_;(with_reducible refine (spec_ExprOk.calls k _ _ l0 false _ ?side1 ?side2 A3.out).mono ?_);(case side1 => exact q58_);(case side2 => exact HC0.out);rintro e w10 ⟨rfl,hb⟩;refine ⟨_,rfl,?_⟩;replace HB:=Aside0.mk (below_step q20_ hb);(try clear hb)))
 go_ret2
 exact ⟨q21_,q20_⟩
def impl_NamesIn.f (k:Nat) (l0:List (S45)):Option (List ByteArray):=(impl_ExprOk.f k l0).bind fun t332 => (if t332 = true then ((impl_namesIn.f l0).bind fun t333 => (some t333)) else (some ([]:List ByteArray)))
theorem impl_NamesIn.mono:∀ a0 k,LeO (impl_NamesIn.f k a0) (impl_NamesIn.f (k + 1) a0):=by
 intro a0 k
 unfold impl_NamesIn.f
 repeat' first
   | (with_reducible first | exact impl_ExprOk.mono _ _ | exact LeO.refl _ | exact LeO.none _ | refine LeO.ite ?_ ?_ | refine LeO.bind ?_ (fun _ => ?_))
   | exact impl_ExprOk.mono _ _
   | exact LeO.none _
   | refine LeO.ite ?_ ?_
   | refine LeO.bind ?_ (fun _ => ?_)
theorem impl_NamesIn.calls (k:Nat) (A0:Option Addr) (c0:Nat) (l0:List (S45)) (r:List ByteArray) (w:World) (hr0:Kd.C k45 w A0 l0.length l0) (hc0:l0.length ≤ c0) (h:impl_NamesIn.f k l0 = some r) :
  Calls Try.prog 8 #[.slice A0 l0.length c0] w fun e w' => ∃ v0_:Value,e = .returned (v0_) ∧ Kd.R Kd.string 9 w' w.heap.size (fun _ => True) v0_ r ∧ Below w.heap.size w w':=by
 have HR0:=Aside0.mk hr0
 have HC0:=Aside0.mk hc0
 clear hr0 hc0
 have HB:=Aside0.mk (Below.refl w.heap.size w)
 have H:=h;unfold impl_NamesIn.f at H
 clear h
 replace H:=Option.bind_eq_some_iff.mp H
 obtain ⟨t332,A20,H⟩:=H
 have A2:=Aside0.mk A20
 clear A20
 by_cases c3:t332 = true
 ·subst c3
  rewrite [if_pos rfl] at H
  replace H:=Option.bind_eq_some_iff.mp H
  obtain ⟨t333,A40,H⟩:=H
  have A4:=Aside0.mk A40
  clear A40
  obtain rfl:=Option.some.inj H
  go_enter Try.func8,Try.ntmps8
  go_wp2_with (first | ((with_reducible refine gate_callee (f:=12) rfl ?_);refine goesL_ (some 4) rfl rfl Try.func12 (by kernel_rfl) rfl #[.slice A0 l0.length c0] rfl q18_ ?_;(with_reducible refine (impl_ExprOk.calls k _ _ l0 true _ ?side1 ?side2 A2.out).mono ?_);(case side1 => exact q58_);(case side2 => exact HC0.out);rintro e w5 ⟨rfl,hb⟩;refine ⟨_,rfl,?_⟩;replace HB:=Aside0.mk (below_step q20_ hb);(try clear hb)) | ((with_reducible refine gate_callee (f:=16) rfl ?_);refine goesL_ (some 7) rfl rfl Try.func16 (by kernel_rfl) rfl #[.slice A0 l0.length c0] rfl q18_ ?_;(with_reducible refine (impl_namesIn.calls _ _ l0 t333 _ ?side1 ?side2 A4.out).mono ?_);(case side1 => exact q49_);(case side2 => exact HC0.out);rintro e w6 ⟨v334,rfl,ho0,hb⟩;refine ⟨_,rfl,?_⟩;have n0_:=Aside0.mk (Kd.R_lower ho0 (below_size q20_));have n1_:=Aside0.mk (below_step q20_ hb);clear HB;have HO335:=n0_;have HB:=n1_;clear n0_ n1_;(try clear hb);(try clear ho0)))
  go_ret
  exact ⟨_,q21_,by (with_reducible repeat (first | apply Kd.R_alloc | apply Kd.R_drewN | apply Kd.R_drew));exact HO335.out,q20_⟩
 replace c3:=Bool.eq_false_iff.mpr c3
 subst c3
 rewrite [if_neg (show ¬ (false = true) by decide)] at H
 obtain rfl:=Option.some.inj H
 go_enter Try.func8,Try.ntmps8
 go_wp2_with (first | ((with_reducible refine gate_callee (f:=12) rfl ?_);refine goesL_ (some 4) rfl rfl Try.func12 (by kernel_rfl) rfl #[.slice A0 l0.length c0] rfl q18_ ?_;(with_reducible refine (impl_ExprOk.calls k _ _ l0 false _ ?side1 ?side2 A2.out).mono ?_);(case side1 => exact q58_);(case side2 => exact HC0.out);rintro e w7 ⟨rfl,hb⟩;refine ⟨_,rfl,?_⟩;replace HB:=Aside0.mk (below_step q20_ hb);(try clear hb)))
 go_ret
 exact ⟨_,q21_,by first | exact Kd.R_nil _ _ _ _ _ | exact Kd.N_nil _ _ _ _ _ | exact Kd.V_nil _ _ _ _ _ | exact Kd.Q_nil _ _ _ _ _ | exact Kd.S_nil _ _ _ _ _,q20_⟩
end Go.Proofs.Ytpghjbikjmnnoaa.QFnEval
