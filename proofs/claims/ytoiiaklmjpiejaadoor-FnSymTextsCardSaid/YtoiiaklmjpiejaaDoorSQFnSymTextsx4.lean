/- The machine's side of a law,written by a program of this session for this claim. -/
import Derived.Test.YtoiiaklmjpiejaaDoorSQq
import Derived.Test.YtoiiaklmjpiejaaDoorSQFnSymTextsx0
import Derived.Test.YtoiiaklmjpiejaaDoorSQFnSymTextsx3
namespace Go.Proofs.YtoiiaklmjpiejaaDoor.QFnSymTexts
open Go.Proofs.YtoiiaklmjpiejaaDoor.Qq
open Go.RowKit Go.Proofs.YtoiiaklmjpiejaaDoor.LibX Go.Proofs.YtoiiaklmjpiejaaDoor.LibE Go.Proofs.YtoiiaklmjpiejaaDoor.LibCB Go.Proofs.YtoiiaklmjpiejaaDoor.LibG Go.Proofs.YtoiiaklmjpiejaaDoor.LibSY Go.Proofs.YtoiiaklmjpiejaaDoorW.PrintWords Go.Proofs.YtoiiaklmjpiejaaDoorW.PrintLast Go.Proofs.YtoiiaklmjpiejaaDoorW.PrintMore
attribute [local go_sem] leq_string
attribute [local go_sem] max2_int min2_int max_two min_two max_three min_three max_four min_four   -- for this text's walks alone
set_option maxHeartbeats 8000000
set_option maxRecDepth 100000
set_option linter.unusedVariables false
set_option linter.unusedSimpArgs false
mutual
def impl_areSyms.l0:Nat → List (S54) → List (S54) → Int → Int → Option (Bool)
 | 0,_,_,_,_ => none
 | k + 1,x0,x5,x6,x7 => if x7 < x6 then (if 0 ≤ x7 then (if x7 < (x5.length:Int) then ((impl_isSym.f k ((rd_T54 x5 x7).f0) ((rd_T54 x5 x7).f1) ((rd_T54 x5 x7).f2)).bind fun t142 => (if t142 = true then (if x7 > 0 then (if 0 ≤ (wrap64 (x7 - 1)) then (if (wrap64 (x7 - 1)) < (x0.length:Int) then (impl_areSyms.j1 k x0 x5 x6 x7 (!(Op.bytesLess (((rd_T54 x0 (wrap64 (x7 - 1))).f0).toList) (((rd_T54 x5 x7).f0).toList)))) else (none)) else (none)) else (impl_areSyms.j1 k x0 x5 x6 x7 false)) else (impl_areSyms.j1 k x0 x5 x6 x7 true))) else (none)) else (none)) else (some (decide ((x0.length:Int) ≤ 800)))
def impl_areSyms.j1:Nat → List (S54) → List (S54) → Int → Int → Bool → Option (Bool)
 | 0,_,_,_,_,_ => none
 | k + 1,x0,x5,x6,x7,x29 => if x29 = true then (some false) else (impl_areSyms.l0 k x0 x5 x6 (wrap64 (x7 + 1)))
end
def impl_areSyms.f (k:Nat) (l0:List (S54)):Option (Bool):=impl_areSyms.l0 k l0 l0 (l0.length:Int) 0
def impl_areSyms.T4:Bool × List (List Nat × List Nat):=(true,[([],[]),([0],[0]),([1],[1]),([2,1],[2]),([3],[3]),([4,3],[3,4]),([5,3,3],[3,5]),([6],[6]),([7,6],[6,7]),([6],[6]),([6],[6]),([10,6],[6,10]),([9,11,6],[6,9,11]),([12,6],[6,12]),([13,6],[6,13]),([8,14,6],[6,8,14]),([6,15,3],[3,6,15]),([3,16],[3,16])])
def impl_areSyms.B4:List Nat:=[0,1,3,7,15,31,63,127,255,127,127,1151,3711,7807,15999,32767,65535,131071]
theorem impl_areSyms.tab4:rtab .any (opsOf Tryd.f47 4) = impl_areSyms.T4:=by kernel_rfl
theorem impl_areSyms.bits4:waitsOk impl_areSyms.T4.2 impl_areSyms.B4 = true:=by kernel_rfl
theorem impl_areSyms.calls (k:Nat) (A0:Option Addr) (c0:Nat) (l0:List (S54)) (r:Bool) (w:World) (hr0:Kd.C k54 w A0 l0.length l0) (hc0:l0.length ≤ c0) (h:impl_areSyms.f k l0 = some r) :
  Calls Tryd.prog 47 #[.slice A0 l0.length c0] w fun e w' => e = .returned (.bool r) ∧ Below w.heap.size w w':=by
 have hu54:=Tryd.underlying54
 have HR0:=Aside0.mk hr0
 have HC0:=Aside0.mk hc0
 clear hr0 hc0
 have HB:=Aside0.mk (Below.refl w.heap.size w)
 have H:(impl_areSyms.l0 k l0 l0 (l0.length:Int) 0) = some r:=h
 clear h
 have H':=Aside0.mk H
 clear H
 go_enter Tryd.func47,Tryd.ntmps47
 go_wp2
 go_loopg [7] k (fun kq v7 w' => ∃ (x7_1:Int),v7 = .int .i64 x7_1 ∧ Aside0 (impl_areSyms.l0 kq l0 l0 (l0.length:Int) x7_1 = some r) ∧ Aside0 (kq ≤ k) ∧ Aside0 (Below w.heap.size w w'))
 case atStart => exact ⟨(0),q26_,H',⟨Nat.le_refl _⟩,⟨q20_⟩⟩
 clear H'
 obtain ⟨x7_1,rfl,HA,HK1,HB⟩:=hrel
 cases gk with
 | zero => exact absurd HA.out (by simp [impl_areSyms.l0])
 | succ k1 =>
  have H:=HA.out
  clear HA
  simp only [impl_areSyms.l0] at H
  by_cases c2:x7_1 < (l0.length:Int)
  ·rw [if_pos c2] at H
   have c2b0:=decide_eq_true c2
   clear c2
   by_cases c3:0 ≤ x7_1
   rotate_left
   ·rw [if_neg c3] at H
    exact absurd H (by simp)
   rw [if_pos c3] at H
   have c3b0:=decide_eq_true c3
   clear c3
   by_cases c4:x7_1 < (l0.length:Int)
   rotate_left
   ·rw [if_neg c4] at H
    exact absurd H (by simp)
   rw [if_pos c4] at H
   have c4b0:=decide_eq_true c4
   clear c4
   have HC5:=Aside0.mk H
   clear H
   have p140:0 ≤ (x7_1:Int):=of_decide_eq_true q36_
   have q140:x7_1 < (l0.length:Int):=of_decide_eq_true q36_
   obtain ⟨ad140,e140,hx140_0,hx140_1,hx140_2⟩:=at_T54 HR0.out x7_1 p140 q140
   cases e140
   replace hx140_0:=(HB.out.cell (World.block_lt_of_cell? w _ hx140_0)).trans hx140_0
   replace hx140_1:=(HB.out.cell (World.block_lt_of_cell? w _ hx140_1)).trans hx140_1
   replace hx140_2:=(HB.out.cell (World.block_lt_of_cell? w _ hx140_2)).trans hx140_2
   replace p140:=eq_true p140
   replace q140:=eq_true q140
   go_upto_region 4 with (first | ((with_reducible refine gate_dst (N:=4) rfl ?_);refine box_event ?hg (N:=4) ?hd (cs:=#[.string (⟨#[]⟩:ByteArray),.int .i64 0,.int .i64 0]) (t:=54) ?hr ?_;(case hd => rfl);(case hg => rfl);(case hr => exact q51_);intro gb141 hg w6 hbox hb;have n0_:=Aside0.mk (below_step q20_ hb);have n1_:=Aside0.mk (hbox);have n2_:=Aside0.mk ((q10_:w.heap.size ≤ gb141));have n3_:=Aside0.mk ((q10_:w.heap.size ≤ gb141));clear HB;have HB:=n0_;have BK141:=n1_;have GW141:=n2_;have GE141:=n3_;clear n0_ n1_ n2_ n3_;clear hb hbox hg;have hcz7_0:w6.cell? ⟨gb141,0,none⟩ = some (.string (⟨#[]⟩:ByteArray)):=(blk_cell BK141.out 0).trans rfl;have hcz7_1:w6.cell? ⟨gb141,1,none⟩ = some (.int .i64 0):=(blk_cell BK141.out 1).trans rfl;have hcz7_2:w6.cell? ⟨gb141,2,none⟩ = some (.int .i64 0):=(blk_cell BK141.out 2).trans rfl;have hfz7_0:=blk_frozen BK141.out 0;have hfz7_1:=blk_frozen BK141.out 1;have hfz7_2:=blk_frozen BK141.out 2))
   (try simp only [Act.put,List.setIfInBounds_toArray,List.set_cons_zero,List.set_cons_succ])
   go_cut [29] (fun v29 wc => ∃ (kq:Nat) (x29_4:Bool),v29 = .bool x29_4 ∧ Aside0 (impl_areSyms.j1 kq l0 l0 (l0.length:Int) x7_1 x29_4 = some r) ∧ Aside0 (kq ≤ k1) ∧ Aside0 (wc.heap[gb141]? = some (.cells #[.string ((rd_T54 l0 x7_1).f0),.int .i64 ((rd_T54 l0 x7_1).f1),.int .i64 ((rd_T54 l0 x7_1).f2)] 54 (0,0))) ∧ Aside0 (Below w.heap.size w wc))
   case first =>
    have H:=HC5.out
    clear HC5
    replace H:=Option.bind_eq_some_iff.mp H
    obtain ⟨t142,A80,H⟩:=H
    have A8:=Aside0.mk A80
    clear A80
    by_cases c9:t142 = true
    ·subst c9
     rewrite [if_pos rfl] at H
     by_cases c10:x7_1 > 0
     ·rw [if_pos c10] at H
      have c10b0:decide (0 < x7_1) = true:=decide_eq_true c10
      clear c10
      (first | rw [c10b0] | (simp only [i64_w,i32_w];rw [c10b0]) | rw [c10b9] | skip)
      obtain ⟨ji11,hji11⟩:∃ j_:Int,(wrap64 (x7_1 - 1)) = j_:=⟨_,rfl⟩
      (first | rewrite [hji11] at H | simp only [hji11] at H)
      (try rw [hji11] at A8)
      have hji11w:(IntKind.i64.wrap (x7_1 - 1)) = ji11:=(i64_w _).trans hji11
      by_cases c12:0 ≤ (ji11)
      rotate_left
      ·rw [if_neg c12] at H
       exact absurd H (by simp)
      rw [if_pos c12] at H
      have c12b0:=decide_eq_true c12
      clear c12
      by_cases c13:(ji11) < (l0.length:Int)
      rotate_left
      ·rw [if_neg c13] at H
       exact absurd H (by simp)
      rw [if_pos c13] at H
      have c13b0:=decide_eq_true c13
      clear c13
      have H':=Aside0.mk H
      clear H
      try go_wp2
      have n0_:Aside0 ((((w6.setCell ⟨gb141,0,none⟩ (.string ((rd_T54 l0 x7_1).f0))).setCell ⟨gb141,1,none⟩ (.int .i64 ((rd_T54 l0 x7_1).f1))).setCell ⟨gb141,2,none⟩ (.int .i64 ((rd_T54 l0 x7_1).f2))).heap[gb141]? = some (.cells #[.string ((rd_T54 l0 x7_1).f0),.int .i64 ((rd_T54 l0 x7_1).f1),.int .i64 ((rd_T54 l0 x7_1).f2)] 54 (0,0))):=⟨q0_⟩
      have n1_:Aside0 (Below w.heap.size w (((w6.setCell ⟨gb141,0,none⟩ (.string ((rd_T54 l0 x7_1).f0))).setCell ⟨gb141,1,none⟩ (.int .i64 ((rd_T54 l0 x7_1).f1))).setCell ⟨gb141,2,none⟩ (.int .i64 ((rd_T54 l0 x7_1).f2)))):=⟨q12_⟩
      (try clear BK141)
      (try clear HB)
      generalize (((w6.setCell ⟨gb141,0,none⟩ (.string ((rd_T54 l0 x7_1).f0))).setCell ⟨gb141,1,none⟩ (.int .i64 ((rd_T54 l0 x7_1).f1))).setCell ⟨gb141,2,none⟩ (.int .i64 ((rd_T54 l0 x7_1).f2))) = w14 at n0_ n1_ ⊢
      have BK141:=n0_
      have HB:=n1_
      clear n0_ n1_
      have n0_:=Aside0.mk (blk_drew BK141.out)
      have n1_:=Aside0.mk (below_drew1 HB.out)
      clear BK141
      clear HB
      have BK141:=n0_
      have HB:=n1_
      clear n0_ n1_
      have p143:0 ≤ ((ji11):Int):=of_decide_eq_true q36_
      have q143:(ji11) < (l0.length:Int):=of_decide_eq_true q36_
      obtain ⟨ad143,e143,hx143_0,hx143_1,hx143_2⟩:=at_T54 HR0.out (ji11) p143 q143
      have hw143_2:=hx143_2
      have hw143_1:=hx143_1
      have hw143_0:=hx143_0
      obtain rfl:ad140 = ad143:=(by injection e143)
      replace hx143_0:=(HB.out.cell (World.block_lt_of_cell? w _ hx143_0)).trans hx143_0
      replace hx143_1:=(HB.out.cell (World.block_lt_of_cell? w _ hx143_1)).trans hx143_1
      replace hx143_2:=(HB.out.cell (World.block_lt_of_cell? w _ hx143_2)).trans hx143_2
      replace p143:=eq_true p143
      replace q143:=eq_true q143
      refine start_ (n:=18) (S:=fun w' => w'.cell? ⟨gb141,0,none⟩ = some (.string ((rd_T54 l0 x7_1).f0)) ∧ w'.cell? ⟨gb141,1,none⟩ = some (.int .i64 ((rd_T54 l0 x7_1).f1)) ∧ w'.cell? ⟨gb141,2,none⟩ = some (.int .i64 ((rd_T54 l0 x7_1).f2)) ∧ w'.cell? (ad140.add (((ji11)).toNat * 3)) = some (.string ((rd_T54 l0 (ji11)).f0)) ∧ w'.cell? ⟨(ad140.add (((ji11)).toNat * 3)).block,(ad140.add (((ji11)).toNat * 3)).off + 1,none⟩ = some (.int .i64 ((rd_T54 l0 (ji11)).f1)) ∧ w'.cell? ⟨(ad140.add (((ji11)).toNat * 3)).block,(ad140.add (((ji11)).toNat * 3)).off + 2,none⟩ = some (.int .i64 ((rd_T54 l0 (ji11)).f2))) (ds:=[]) #[false,false,false,false,false,false,false,false,false,false,false,false,false,false,false,false,false,false] (by kernel_rfl) rfl rfl ⟨(blk_cell BK141.out 0).trans rfl,(blk_cell BK141.out 1).trans rfl,(blk_cell BK141.out 2).trans rfl,((HB.out.cell (World.block_lt_of_cell? w _ hw143_0)).trans hw143_0),((HB.out.cell (World.block_lt_of_cell? w _ hw143_1)).trans hw143_1),((HB.out.cell (World.block_lt_of_cell? w _ hw143_2)).trans hw143_2)⟩ (fun hHeld => ?_);refine with_tabW impl_areSyms.tab4 impl_areSyms.bits4 (fun HT_ HW_ => ?_)
      generalize w14.drew = w15 at BK141 HB hx143_0 hx143_1 hx143_2 hHeld ⊢
      refine take_ (i:=0) (N:=some 12) (v:=?_) (a':=?_) #[true,false,false,false,false,false,false,false,false,false,false,false,false,false,false,false,false,false] rfl rfl (take_ofW HT_.out HW_.out (by kernel_rfl)) (fun _ _ _ h => h) (Or.inl ⟨by rfl,?_⟩) hHeld ?_ ?_
      rotate_left
      ·rintro w' ⟨s0,s1,s2,s3,s4,s5⟩
       go_simp
       with_reducible rfl
      rotate_left
      ·simp only [Act.put,List.setIfInBounds_toArray,List.set_cons_zero,List.set_cons_succ,i64_w,i32_w]
       rfl
      refine one_ (i:=1) (N:=some 13) #[true,true,false,false,false,false,false,false,false,false,false,false,false,false,false,false,false,false] rfl rfl (one_of HT_.out (by kernel_rfl)) (by decide) (fun K hK => ?_)
      refine goes_ Tryd.func67 (by kernel_rfl) rfl #[.agg #[.string ((rd_T54 l0 x7_1).f0),.int .i64 ((rd_T54 l0 x7_1).f1),.int .i64 ((rd_T54 l0 x7_1).f2)]] (by rfl) rfl rfl q19_ ?_
      with_reducible refine (impl_isSym.calls k1 ((rd_T54 l0 x7_1).f0) ((rd_T54 l0 x7_1).f1) ((rd_T54 l0 x7_1).f2) true _ A8.out).mono ?_
      rintro e w16 ⟨rfl,hb⟩
      refine ⟨_,rfl,?_⟩
      have n0_:=Aside0.mk (blk_below (g:=gb141) (o:=.cells #[.string ((rd_T54 l0 x7_1).f0),.int .i64 ((rd_T54 l0 x7_1).f1),.int .i64 ((rd_T54 l0 x7_1).f2)] 54 (0,0)) q22_ hb)
      have n1_:=Aside0.mk (below_step q12_ hb)
      clear BK141
      clear HB
      have BK141:=n0_
      have HB:=n1_
      clear n0_ n1_
      (try clear hb)
      (try clear hb2)
      (try clear hk)
      (try clear hi)
      refine hK.out _ _ ⟨(blk_cell BK141.out 0).trans rfl,(blk_cell BK141.out 1).trans rfl,(blk_cell BK141.out 2).trans rfl,((HB.out.cell (World.block_lt_of_cell? w _ hw143_0)).trans hw143_0),((HB.out.cell (World.block_lt_of_cell? w _ hw143_1)).trans hw143_1),((HB.out.cell (World.block_lt_of_cell? w _ hw143_2)).trans hw143_2)⟩ (fun hHeld => ?_)
      clear hK K
      refine norm_ (a':=?_) ?_ ?_
      rotate_left
      ·show Act.put _ (some 13) _ = _
       simp only [Act.put,List.setIfInBounds_toArray,List.set_cons_zero,List.set_cons_succ,i64_w,i32_w]
       rfl
      refine pure_ (i:=2) (N:=some 14) (v:=?_) (a':=?_) #[true,true,true,false,false,false,false,false,false,false,false,false,false,false,false,false,false,false] rfl rfl (any_of HT_.out (by kernel_rfl)) (fun _ _ _ h => h) (Or.inl ⟨by rfl,?_⟩) ?_ ?_
      rotate_left
      ·intro w'
       go_simp
       with_reducible rfl
      rotate_left
      ·simp only [Act.put,List.setIfInBounds_toArray,List.set_cons_zero,List.set_cons_succ,i64_w,i32_w]
       rfl
      refine pure_ (i:=3) (N:=some 15) (v:=?_) (a':=?_) #[true,true,true,true,false,false,false,false,false,false,false,false,false,false,false,false,false,false] rfl rfl (any_of HT_.out (by kernel_rfl)) (fun _ _ _ h => h) (Or.inl ⟨by rfl,?_⟩) ?_ ?_
      rotate_left
      ·intro w'
       go_simp
       with_reducible rfl
      rotate_left
      ·simp only [Act.put,List.setIfInBounds_toArray,List.set_cons_zero,List.set_cons_succ,i64_w,i32_w]
       rfl
      refine pure_ (i:=4) (N:=some 16) (v:=?_) (a':=?_) #[true,true,true,true,true,false,false,false,false,false,false,false,false,false,false,false,false,false] rfl rfl (any_of HT_.out (by kernel_rfl)) (fun _ _ _ h => h) (Or.inl ⟨by rfl,?_⟩) ?_ ?_
      rotate_left
      ·intro w'
       go_simp
       with_reducible rfl
      rotate_left
      ·simp only [Act.put,List.setIfInBounds_toArray,List.set_cons_zero,List.set_cons_succ,i64_w,i32_w]
       rfl
      refine pure_ (i:=5) (N:=some 17) (v:=?_) (a':=?_) #[true,true,true,true,true,true,false,false,false,false,false,false,false,false,false,false,false,false] rfl rfl (any_of HT_.out (by kernel_rfl)) (fun _ _ _ h => h) (Or.inl ⟨by rfl,?_⟩) ?_ ?_
      rotate_left
      ·intro w'
       go_simp
       with_reducible rfl
      rotate_left
      ·simp only [Act.put,List.setIfInBounds_toArray,List.set_cons_zero,List.set_cons_succ,i64_w,i32_w]
       rfl
      refine pure_ (i:=6) (N:=some 18) (v:=?_) (a':=?_) #[true,true,true,true,true,true,true,false,false,false,false,false,false,false,false,false,false,false] rfl rfl (any_of HT_.out (by kernel_rfl)) (fun _ _ _ h => h) (Or.inl ⟨by rfl,?_⟩) ?_ ?_
      rotate_left
      ·intro w'
       go_simp
       with_reducible rfl
      rotate_left
      ·simp only [Act.put,List.setIfInBounds_toArray,List.set_cons_zero,List.set_cons_succ,i64_w,i32_w]
       rfl
      refine pure_ (i:=7) (N:=some 19) (v:=?_) (a':=?_) #[true,true,true,true,true,true,true,true,false,false,false,false,false,false,false,false,false,false] rfl rfl (any_of HT_.out (by kernel_rfl)) (fun _ _ _ h => h) (Or.inl ⟨by rfl,?_⟩) ?_ ?_
      rotate_left
      ·intro w'
       go_simp
       with_reducible rfl
      rotate_left
      ·simp only [Act.put,List.setIfInBounds_toArray,List.set_cons_zero,List.set_cons_succ,i64_w,i32_w]
       rfl
      refine pure_ (i:=9) (N:=some 21) (v:=?_) (a':=?_) #[true,true,true,true,true,true,true,true,false,true,false,false,false,false,false,false,false,false] rfl rfl (any_of HT_.out (by kernel_rfl)) (fun _ _ _ h => h) (Or.inl ⟨by rfl,?_⟩) ?_ ?_
      rotate_left
      ·intro w'
       go_simp
       with_reducible rfl
      rotate_left
      ·simp only [Act.put,List.setIfInBounds_toArray,List.set_cons_zero,List.set_cons_succ,i64_w,i32_w]
       rfl
      refine pure_ (i:=10) (N:=some 22) (v:=?_) (a':=?_) #[true,true,true,true,true,true,true,true,false,true,true,false,false,false,false,false,false,false] rfl rfl (any_of HT_.out (by kernel_rfl)) (fun _ _ _ h => h) (Or.inl ⟨by rfl,?_⟩) ?_ ?_
      rotate_left
      ·intro w'
       go_simp
       with_reducible rfl
      rotate_left
      ·simp only [Act.put,List.setIfInBounds_toArray,List.set_cons_zero,List.set_cons_succ,i64_w,i32_w]
       rfl
      refine pure_ (i:=11) (N:=some 23) (v:=?_) (a':=?_) #[true,true,true,true,true,true,true,true,false,true,true,true,false,false,false,false,false,false] rfl rfl (any_of HT_.out (by kernel_rfl)) (fun _ _ _ h => h) (Or.inl ⟨by rfl,?_⟩) ?_ ?_
      rotate_left
      ·intro w'
       go_simp
       with_reducible rfl
      rotate_left
      ·simp only [Act.put,List.setIfInBounds_toArray,List.set_cons_zero,List.set_cons_succ,i64_w,i32_w]
       rfl
      refine pure_ (i:=12) (N:=some 24) (v:=?_) (a':=?_) #[true,true,true,true,true,true,true,true,false,true,true,true,true,false,false,false,false,false] rfl rfl (any_of HT_.out (by kernel_rfl)) (fun _ _ _ h => h) (Or.inl ⟨by rfl,?_⟩) ?_ ?_
      rotate_left
      ·intro w'
       go_simp
       with_reducible rfl
      rotate_left
      ·simp only [Act.put,List.setIfInBounds_toArray,List.set_cons_zero,List.set_cons_succ,i64_w,i32_w]
       rfl
      refine pure_ (i:=13) (N:=some 25) (v:=?_) (a':=?_) #[true,true,true,true,true,true,true,true,false,true,true,true,true,true,false,false,false,false] rfl rfl (any_of HT_.out (by kernel_rfl)) (fun _ _ _ h => h) (Or.inl ⟨by rfl,?_⟩) ?_ ?_
      rotate_left
      ·intro w'
       go_simp
       with_reducible rfl
      rotate_left
      ·simp only [Act.put,List.setIfInBounds_toArray,List.set_cons_zero,List.set_cons_succ,i64_w,i32_w]
       rfl
      refine take_ (i:=8) (N:=some 20) (v:=?_) (a':=?_) #[true,true,true,true,true,true,true,true,true,true,true,true,true,true,false,false,false,false] rfl rfl (take_ofW HT_.out HW_.out (by kernel_rfl)) (fun _ _ _ h => h) (Or.inl ⟨by rfl,?_⟩) hHeld ?_ ?_
      rotate_left
      ·rintro w' ⟨s0,s1,s2,s3,s4,s5⟩
       go_simp
       with_reducible rfl
      rotate_left
      ·simp only [Act.put,List.setIfInBounds_toArray,List.set_cons_zero,List.set_cons_succ,i64_w,i32_w]
       rfl
      refine take_ (i:=14) (N:=some 26) (v:=?_) (a':=?_) #[true,true,true,true,true,true,true,true,true,true,true,true,true,true,true,false,false,false] rfl rfl (take_ofW HT_.out HW_.out (by kernel_rfl)) (fun _ _ _ h => h) (Or.inl ⟨by rfl,?_⟩) hHeld ?_ ?_
      rotate_left
      ·rintro w' ⟨s0,s1,s2,s3,s4,s5⟩
       go_simp
       with_reducible rfl
      rotate_left
      ·simp only [Act.put,List.setIfInBounds_toArray,List.set_cons_zero,List.set_cons_succ,i64_w,i32_w]
       rfl
      refine pure_ (i:=15) (N:=some 27) (v:=?_) (a':=?_) #[true,true,true,true,true,true,true,true,true,true,true,true,true,true,true,true,false,false] rfl rfl (any_of HT_.out (by kernel_rfl)) (fun _ _ _ h => h) (Or.inl ⟨by rfl,?_⟩) ?_ ?_
      rotate_left
      ·intro w'
       go_simp
       with_reducible rfl
      rotate_left
      ·simp only [Act.put,List.setIfInBounds_toArray,List.set_cons_zero,List.set_cons_succ,i64_w,i32_w]
       rfl
      refine pure_ (i:=16) (N:=some 28) (v:=?_) (a':=?_) #[true,true,true,true,true,true,true,true,true,true,true,true,true,true,true,true,true,false] rfl rfl (any_of HT_.out (by kernel_rfl)) (fun _ _ _ h => h) (Or.inl ⟨by rfl,?_⟩) ?_ ?_
      rotate_left
      ·intro w'
       go_simp
       with_reducible rfl
      rotate_left
      ·simp only [Act.put,List.setIfInBounds_toArray,List.set_cons_zero,List.set_cons_succ,i64_w,i32_w]
       rfl
      refine pure_ (i:=17) (N:=some 29) (v:=?_) (a':=?_) #[true,true,true,true,true,true,true,true,true,true,true,true,true,true,true,true,true,true] rfl rfl (any_of HT_.out (by kernel_rfl)) (fun _ _ _ h => h) (Or.inl ⟨by rfl,?_⟩) ?_ ?_
      rotate_left
      ·intro w'
       go_simp
       with_reducible rfl
      rotate_left
      ·simp only [Act.put,List.setIfInBounds_toArray,List.set_cons_zero,List.set_cons_succ,i64_w,i32_w]
       rfl
      refine done_ (done_of HT_.out (by kernel_rfl)) ?_
      try go_wp2
      go_meet
      case rel => exact ⟨_,(!(Op.bytesLess (((rd_T54 l0 (ji11)).f0).toList) (((rd_T54 l0 x7_1).f0).toList))),(by first | rfl | (simp;done) | (simp only [← hji11] <;> (first | rfl | (simp;done))) | (simp [*];done) | (simp;decide +kernel) | (simp [wrap64];done) | (simp [bne];done)),(by first | with_reducible exact H' | (have H2_:=H';simp only [← hji11] at H2_ ⊢;with_reducible exact H2_) | exact H'),⟨q35_⟩,⟨q22_⟩,⟨q12_⟩⟩
     rw [if_neg c10] at H
     have c10b0:decide (0 < x7_1) = false:=decide_eq_false c10
     clear c10
     (first | rw [c10b0] | (simp only [i64_w,i32_w];rw [c10b0]) | rw [c10b9] | skip)
     have H':=Aside0.mk H
     clear H
     try go_wp2
     have n0_:Aside0 ((((w6.setCell ⟨gb141,0,none⟩ (.string ((rd_T54 l0 x7_1).f0))).setCell ⟨gb141,1,none⟩ (.int .i64 ((rd_T54 l0 x7_1).f1))).setCell ⟨gb141,2,none⟩ (.int .i64 ((rd_T54 l0 x7_1).f2))).heap[gb141]? = some (.cells #[.string ((rd_T54 l0 x7_1).f0),.int .i64 ((rd_T54 l0 x7_1).f1),.int .i64 ((rd_T54 l0 x7_1).f2)] 54 (0,0))):=⟨q0_⟩
     have n1_:Aside0 (Below w.heap.size w (((w6.setCell ⟨gb141,0,none⟩ (.string ((rd_T54 l0 x7_1).f0))).setCell ⟨gb141,1,none⟩ (.int .i64 ((rd_T54 l0 x7_1).f1))).setCell ⟨gb141,2,none⟩ (.int .i64 ((rd_T54 l0 x7_1).f2)))):=⟨q12_⟩
     (try clear BK141)
     (try clear HB)
     generalize (((w6.setCell ⟨gb141,0,none⟩ (.string ((rd_T54 l0 x7_1).f0))).setCell ⟨gb141,1,none⟩ (.int .i64 ((rd_T54 l0 x7_1).f1))).setCell ⟨gb141,2,none⟩ (.int .i64 ((rd_T54 l0 x7_1).f2))) = w17 at n0_ n1_ ⊢
     have BK141:=n0_
     have HB:=n1_
     clear n0_ n1_
     have n0_:=Aside0.mk (blk_drew BK141.out)
     have n1_:=Aside0.mk (below_drew1 HB.out)
     clear BK141
     clear HB
     have BK141:=n0_
     have HB:=n1_
     clear n0_ n1_
     refine start_ (n:=18) (S:=fun w' => w'.cell? ⟨gb141,0,none⟩ = some (.string ((rd_T54 l0 x7_1).f0)) ∧ w'.cell? ⟨gb141,1,none⟩ = some (.int .i64 ((rd_T54 l0 x7_1).f1)) ∧ w'.cell? ⟨gb141,2,none⟩ = some (.int .i64 ((rd_T54 l0 x7_1).f2))) (ds:=[]) #[false,false,false,false,false,false,false,false,false,false,false,false,false,false,false,false,false,false] (by kernel_rfl) rfl rfl ⟨(blk_cell BK141.out 0).trans rfl,(blk_cell BK141.out 1).trans rfl,(blk_cell BK141.out 2).trans rfl⟩ (fun hHeld => ?_);refine with_tabW impl_areSyms.tab4 impl_areSyms.bits4 (fun HT_ HW_ => ?_)
     generalize w17.drew = w18 at BK141 HB hHeld ⊢
     refine take_ (i:=0) (N:=some 12) (v:=?_) (a':=?_) #[true,false,false,false,false,false,false,false,false,false,false,false,false,false,false,false,false,false] rfl rfl (take_ofW HT_.out HW_.out (by kernel_rfl)) (fun _ _ _ h => h) (Or.inl ⟨by rfl,?_⟩) hHeld ?_ ?_
     rotate_left
     ·rintro w' ⟨s0,s1,s2⟩
      go_simp
      with_reducible rfl
     rotate_left
     ·simp only [Act.put,List.setIfInBounds_toArray,List.set_cons_zero,List.set_cons_succ,i64_w,i32_w]
      rfl
     refine one_ (i:=1) (N:=some 13) #[true,true,false,false,false,false,false,false,false,false,false,false,false,false,false,false,false,false] rfl rfl (one_of HT_.out (by kernel_rfl)) (by decide) (fun K hK => ?_)
     refine goes_ Tryd.func67 (by kernel_rfl) rfl #[.agg #[.string ((rd_T54 l0 x7_1).f0),.int .i64 ((rd_T54 l0 x7_1).f1),.int .i64 ((rd_T54 l0 x7_1).f2)]] (by rfl) rfl rfl q19_ ?_
     with_reducible refine (impl_isSym.calls k1 ((rd_T54 l0 x7_1).f0) ((rd_T54 l0 x7_1).f1) ((rd_T54 l0 x7_1).f2) true _ A8.out).mono ?_
     rintro e w19 ⟨rfl,hb⟩
     refine ⟨_,rfl,?_⟩
     have n0_:=Aside0.mk (blk_below (g:=gb141) (o:=.cells #[.string ((rd_T54 l0 x7_1).f0),.int .i64 ((rd_T54 l0 x7_1).f1),.int .i64 ((rd_T54 l0 x7_1).f2)] 54 (0,0)) q22_ hb)
     have n1_:=Aside0.mk (below_step q12_ hb)
     clear BK141
     clear HB
     have BK141:=n0_
     have HB:=n1_
     clear n0_ n1_
     (try clear hb)
     (try clear hb2)
     (try clear hk)
     (try clear hi)
     refine hK.out _ _ ⟨(blk_cell BK141.out 0).trans rfl,(blk_cell BK141.out 1).trans rfl,(blk_cell BK141.out 2).trans rfl⟩ (fun hHeld => ?_)
     clear hK K
     refine norm_ (a':=?_) ?_ ?_
     rotate_left
     ·show Act.put _ (some 13) _ = _
      simp only [Act.put,List.setIfInBounds_toArray,List.set_cons_zero,List.set_cons_succ,i64_w,i32_w]
      rfl
     refine pure_ (i:=2) (N:=some 14) (v:=?_) (a':=?_) #[true,true,true,false,false,false,false,false,false,false,false,false,false,false,false,false,false,false] rfl rfl (any_of HT_.out (by kernel_rfl)) (fun _ _ _ h => h) (Or.inl ⟨by rfl,?_⟩) ?_ ?_
     rotate_left
     ·intro w'
      go_simp
      with_reducible rfl
     rotate_left
     ·simp only [Act.put,List.setIfInBounds_toArray,List.set_cons_zero,List.set_cons_succ,i64_w,i32_w]
      rfl
     refine pure_ (i:=3) (N:=some 15) (v:=?_) (a':=?_) #[true,true,true,true,false,false,false,false,false,false,false,false,false,false,false,false,false,false] rfl rfl (any_of HT_.out (by kernel_rfl)) (fun _ _ _ h => h) (Or.inl ⟨by rfl,?_⟩) ?_ ?_
     rotate_left
     ·intro w'
      go_simp
      with_reducible rfl
     rotate_left
     ·simp only [Act.put,List.setIfInBounds_toArray,List.set_cons_zero,List.set_cons_succ,i64_w,i32_w]
      rfl
     refine pure_ (i:=4) (N:=some 16) (v:=?_) (a':=?_) #[true,true,true,true,true,false,false,false,false,false,false,false,false,false,false,false,false,false] rfl rfl (any_of HT_.out (by kernel_rfl)) (fun _ _ _ h => h) (Or.inl ⟨by rfl,?_⟩) ?_ ?_
     rotate_left
     ·intro w'
      go_simp
      with_reducible rfl
     rotate_left
     ·simp only [Act.put,List.setIfInBounds_toArray,List.set_cons_zero,List.set_cons_succ,i64_w,i32_w]
      rfl
     refine pure_ (i:=5) (N:=some 17) (v:=?_) (a':=?_) #[true,true,true,true,true,true,false,false,false,false,false,false,false,false,false,false,false,false] rfl rfl (any_of HT_.out (by kernel_rfl)) (fun _ _ _ h => h) (Or.inl ⟨by rfl,?_⟩) ?_ ?_
     rotate_left
     ·intro w'
      go_simp
      with_reducible rfl
     rotate_left
     ·simp only [Act.put,List.setIfInBounds_toArray,List.set_cons_zero,List.set_cons_succ,i64_w,i32_w]
      rfl
     refine pure_ (i:=6) (N:=some 18) (v:=?_) (a':=?_) #[true,true,true,true,true,true,true,false,false,false,false,false,false,false,false,false,false,false] rfl rfl (any_of HT_.out (by kernel_rfl)) (fun _ _ _ h => h) (Or.inl ⟨by rfl,?_⟩) ?_ ?_
     rotate_left
     ·intro w'
      go_simp
      with_reducible rfl
     rotate_left
     ·simp only [Act.put,List.setIfInBounds_toArray,List.set_cons_zero,List.set_cons_succ,i64_w,i32_w]
      rfl
     refine pure_ (i:=7) (N:=some 19) (v:=undef) (a':=?_) #[true,true,true,true,true,true,true,true,false,false,false,false,false,false,false,false,false,false] rfl rfl (any_of HT_.out (by kernel_rfl)) (fun _ _ _ h => h) (Or.inr ⟨by rfl,rfl⟩) ?_ ?_
     rotate_left
     ·simp only [Act.put,List.setIfInBounds_toArray,List.set_cons_zero,List.set_cons_succ,i64_w,i32_w]
      rfl
     refine pure_ (i:=8) (N:=some 20) (v:=undef) (a':=?_) #[true,true,true,true,true,true,true,true,true,false,false,false,false,false,false,false,false,false] rfl rfl (any_of HT_.out (by kernel_rfl)) (fun _ _ _ h => h) (Or.inr ⟨by rfl,rfl⟩) ?_ ?_
     rotate_left
     ·simp only [Act.put,List.setIfInBounds_toArray,List.set_cons_zero,List.set_cons_succ,i64_w,i32_w]
      rfl
     refine pure_ (i:=9) (N:=some 21) (v:=undef) (a':=?_) #[true,true,true,true,true,true,true,true,true,true,false,false,false,false,false,false,false,false] rfl rfl (any_of HT_.out (by kernel_rfl)) (fun _ _ _ h => h) (Or.inr ⟨by rfl,rfl⟩) ?_ ?_
     rotate_left
     ·simp only [Act.put,List.setIfInBounds_toArray,List.set_cons_zero,List.set_cons_succ,i64_w,i32_w]
      rfl
     refine pure_ (i:=10) (N:=some 22) (v:=undef) (a':=?_) #[true,true,true,true,true,true,true,true,true,true,true,false,false,false,false,false,false,false] rfl rfl (any_of HT_.out (by kernel_rfl)) (fun _ _ _ h => h) (Or.inr ⟨by rfl,rfl⟩) ?_ ?_
     rotate_left
     ·simp only [Act.put,List.setIfInBounds_toArray,List.set_cons_zero,List.set_cons_succ,i64_w,i32_w]
      rfl
     refine pure_ (i:=11) (N:=some 23) (v:=undef) (a':=?_) #[true,true,true,true,true,true,true,true,true,true,true,true,false,false,false,false,false,false] rfl rfl (any_of HT_.out (by kernel_rfl)) (fun _ _ _ h => h) (Or.inr ⟨by rfl,rfl⟩) ?_ ?_
     rotate_left
     ·simp only [Act.put,List.setIfInBounds_toArray,List.set_cons_zero,List.set_cons_succ,i64_w,i32_w]
      rfl
     refine pure_ (i:=12) (N:=some 24) (v:=undef) (a':=?_) #[true,true,true,true,true,true,true,true,true,true,true,true,true,false,false,false,false,false] rfl rfl (any_of HT_.out (by kernel_rfl)) (fun _ _ _ h => h) (Or.inr ⟨by rfl,rfl⟩) ?_ ?_
     rotate_left
     ·simp only [Act.put,List.setIfInBounds_toArray,List.set_cons_zero,List.set_cons_succ,i64_w,i32_w]
      rfl
     refine pure_ (i:=13) (N:=some 25) (v:=undef) (a':=?_) #[true,true,true,true,true,true,true,true,true,true,true,true,true,true,false,false,false,false] rfl rfl (any_of HT_.out (by kernel_rfl)) (fun _ _ _ h => h) (Or.inr ⟨by rfl,rfl⟩) ?_ ?_
     rotate_left
     ·simp only [Act.put,List.setIfInBounds_toArray,List.set_cons_zero,List.set_cons_succ,i64_w,i32_w]
      rfl
     refine pure_ (i:=14) (N:=some 26) (v:=undef) (a':=?_) #[true,true,true,true,true,true,true,true,true,true,true,true,true,true,true,false,false,false] rfl rfl (any_of HT_.out (by kernel_rfl)) (fun _ _ _ h => h) (Or.inr ⟨by rfl,rfl⟩) ?_ ?_
     rotate_left
     ·simp only [Act.put,List.setIfInBounds_toArray,List.set_cons_zero,List.set_cons_succ,i64_w,i32_w]
      rfl
     refine pure_ (i:=15) (N:=some 27) (v:=undef) (a':=?_) #[true,true,true,true,true,true,true,true,true,true,true,true,true,true,true,true,false,false] rfl rfl (any_of HT_.out (by kernel_rfl)) (fun _ _ _ h => h) (Or.inr ⟨by rfl,rfl⟩) ?_ ?_
     rotate_left
     ·simp only [Act.put,List.setIfInBounds_toArray,List.set_cons_zero,List.set_cons_succ,i64_w,i32_w]
      rfl
     refine pure_ (i:=16) (N:=some 28) (v:=?_) (a':=?_) #[true,true,true,true,true,true,true,true,true,true,true,true,true,true,true,true,true,false] rfl rfl (any_of HT_.out (by kernel_rfl)) (fun _ _ _ h => h) (Or.inl ⟨by rfl,?_⟩) ?_ ?_
     rotate_left
     ·intro w'
      go_simp
      with_reducible rfl
     rotate_left
     ·simp only [Act.put,List.setIfInBounds_toArray,List.set_cons_zero,List.set_cons_succ,i64_w,i32_w]
      rfl
     refine pure_ (i:=17) (N:=some 29) (v:=?_) (a':=?_) #[true,true,true,true,true,true,true,true,true,true,true,true,true,true,true,true,true,true] rfl rfl (any_of HT_.out (by kernel_rfl)) (fun _ _ _ h => h) (Or.inl ⟨by rfl,?_⟩) ?_ ?_
     rotate_left
     ·intro w'
      go_simp
      with_reducible rfl
     rotate_left
     ·simp only [Act.put,List.setIfInBounds_toArray,List.set_cons_zero,List.set_cons_succ,i64_w,i32_w]
      rfl
     refine done_ (done_of HT_.out (by kernel_rfl)) ?_
     try go_wp2
     go_meet
     case rel => exact ⟨_,(false),q26_,H',⟨q35_⟩,⟨q22_⟩,⟨q12_⟩⟩
    replace c9:=Bool.eq_false_iff.mpr c9
    subst c9
    rewrite [if_neg (show ¬ (false = true) by decide)] at H
    have H':=Aside0.mk H
    clear H
    try go_wp2
    have n0_:Aside0 ((((w6.setCell ⟨gb141,0,none⟩ (.string ((rd_T54 l0 x7_1).f0))).setCell ⟨gb141,1,none⟩ (.int .i64 ((rd_T54 l0 x7_1).f1))).setCell ⟨gb141,2,none⟩ (.int .i64 ((rd_T54 l0 x7_1).f2))).heap[gb141]? = some (.cells #[.string ((rd_T54 l0 x7_1).f0),.int .i64 ((rd_T54 l0 x7_1).f1),.int .i64 ((rd_T54 l0 x7_1).f2)] 54 (0,0))):=⟨q0_⟩
    have n1_:Aside0 (Below w.heap.size w (((w6.setCell ⟨gb141,0,none⟩ (.string ((rd_T54 l0 x7_1).f0))).setCell ⟨gb141,1,none⟩ (.int .i64 ((rd_T54 l0 x7_1).f1))).setCell ⟨gb141,2,none⟩ (.int .i64 ((rd_T54 l0 x7_1).f2)))):=⟨q12_⟩
    (try clear BK141)
    (try clear HB)
    generalize (((w6.setCell ⟨gb141,0,none⟩ (.string ((rd_T54 l0 x7_1).f0))).setCell ⟨gb141,1,none⟩ (.int .i64 ((rd_T54 l0 x7_1).f1))).setCell ⟨gb141,2,none⟩ (.int .i64 ((rd_T54 l0 x7_1).f2))) = w20 at n0_ n1_ ⊢
    have BK141:=n0_
    have HB:=n1_
    clear n0_ n1_
    have n0_:=Aside0.mk (blk_drew BK141.out)
    have n1_:=Aside0.mk (below_drew1 HB.out)
    clear BK141
    clear HB
    have BK141:=n0_
    have HB:=n1_
    clear n0_ n1_
    refine start_ (n:=18) (S:=fun w' => w'.cell? ⟨gb141,0,none⟩ = some (.string ((rd_T54 l0 x7_1).f0)) ∧ w'.cell? ⟨gb141,1,none⟩ = some (.int .i64 ((rd_T54 l0 x7_1).f1)) ∧ w'.cell? ⟨gb141,2,none⟩ = some (.int .i64 ((rd_T54 l0 x7_1).f2))) (ds:=[]) #[false,false,false,false,false,false,false,false,false,false,false,false,false,false,false,false,false,false] (by kernel_rfl) rfl rfl ⟨(blk_cell BK141.out 0).trans rfl,(blk_cell BK141.out 1).trans rfl,(blk_cell BK141.out 2).trans rfl⟩ (fun hHeld => ?_);refine with_tabW impl_areSyms.tab4 impl_areSyms.bits4 (fun HT_ HW_ => ?_)
    generalize w20.drew = w21 at BK141 HB hHeld ⊢
    refine take_ (i:=0) (N:=some 12) (v:=?_) (a':=?_) #[true,false,false,false,false,false,false,false,false,false,false,false,false,false,false,false,false,false] rfl rfl (take_ofW HT_.out HW_.out (by kernel_rfl)) (fun _ _ _ h => h) (Or.inl ⟨by rfl,?_⟩) hHeld ?_ ?_
    rotate_left
    ·rintro w' ⟨s0,s1,s2⟩
     go_simp
     with_reducible rfl
    rotate_left
    ·simp only [Act.put,List.setIfInBounds_toArray,List.set_cons_zero,List.set_cons_succ,i64_w,i32_w]
     rfl
    refine one_ (i:=1) (N:=some 13) #[true,true,false,false,false,false,false,false,false,false,false,false,false,false,false,false,false,false] rfl rfl (one_of HT_.out (by kernel_rfl)) (by decide) (fun K hK => ?_)
    refine goes_ Tryd.func67 (by kernel_rfl) rfl #[.agg #[.string ((rd_T54 l0 x7_1).f0),.int .i64 ((rd_T54 l0 x7_1).f1),.int .i64 ((rd_T54 l0 x7_1).f2)]] (by rfl) rfl rfl q19_ ?_
    with_reducible refine (impl_isSym.calls k1 ((rd_T54 l0 x7_1).f0) ((rd_T54 l0 x7_1).f1) ((rd_T54 l0 x7_1).f2) false _ A8.out).mono ?_
    rintro e w22 ⟨rfl,hb⟩
    refine ⟨_,rfl,?_⟩
    have n0_:=Aside0.mk (blk_below (g:=gb141) (o:=.cells #[.string ((rd_T54 l0 x7_1).f0),.int .i64 ((rd_T54 l0 x7_1).f1),.int .i64 ((rd_T54 l0 x7_1).f2)] 54 (0,0)) q22_ hb)
    have n1_:=Aside0.mk (below_step q12_ hb)
    clear BK141
    clear HB
    have BK141:=n0_
    have HB:=n1_
    clear n0_ n1_
    (try clear hb)
    (try clear hb2)
    (try clear hk)
    (try clear hi)
    refine hK.out _ _ ⟨(blk_cell BK141.out 0).trans rfl,(blk_cell BK141.out 1).trans rfl,(blk_cell BK141.out 2).trans rfl⟩ (fun hHeld => ?_)
    clear hK K
    refine norm_ (a':=?_) ?_ ?_
    rotate_left
    ·show Act.put _ (some 13) _ = _
     simp only [Act.put,List.setIfInBounds_toArray,List.set_cons_zero,List.set_cons_succ,i64_w,i32_w]
     rfl
    refine pure_ (i:=2) (N:=some 14) (v:=?_) (a':=?_) #[true,true,true,false,false,false,false,false,false,false,false,false,false,false,false,false,false,false] rfl rfl (any_of HT_.out (by kernel_rfl)) (fun _ _ _ h => h) (Or.inl ⟨by rfl,?_⟩) ?_ ?_
    rotate_left
    ·intro w'
     go_simp
     with_reducible rfl
    rotate_left
    ·simp only [Act.put,List.setIfInBounds_toArray,List.set_cons_zero,List.set_cons_succ,i64_w,i32_w]
     rfl
    refine pure_ (i:=3) (N:=some 15) (v:=?_) (a':=?_) #[true,true,true,true,false,false,false,false,false,false,false,false,false,false,false,false,false,false] rfl rfl (any_of HT_.out (by kernel_rfl)) (fun _ _ _ h => h) (Or.inl ⟨by rfl,?_⟩) ?_ ?_
    rotate_left
    ·intro w'
     go_simp
     with_reducible rfl
    rotate_left
    ·simp only [Act.put,List.setIfInBounds_toArray,List.set_cons_zero,List.set_cons_succ,i64_w,i32_w]
     rfl
    refine pure_ (i:=4) (N:=some 16) (v:=undef) (a':=?_) #[true,true,true,true,true,false,false,false,false,false,false,false,false,false,false,false,false,false] rfl rfl (any_of HT_.out (by kernel_rfl)) (fun _ _ _ h => h) (Or.inr ⟨by rfl,rfl⟩) ?_ ?_
    rotate_left
    ·simp only [Act.put,List.setIfInBounds_toArray,List.set_cons_zero,List.set_cons_succ,i64_w,i32_w]
     rfl
    refine pure_ (i:=5) (N:=some 17) (v:=undef) (a':=?_) #[true,true,true,true,true,true,false,false,false,false,false,false,false,false,false,false,false,false] rfl rfl (any_of HT_.out (by kernel_rfl)) (fun _ _ _ h => h) (Or.inr ⟨by rfl,rfl⟩) ?_ ?_
    rotate_left
    ·simp only [Act.put,List.setIfInBounds_toArray,List.set_cons_zero,List.set_cons_succ,i64_w,i32_w]
     rfl
    refine pure_ (i:=6) (N:=some 18) (v:=undef) (a':=?_) #[true,true,true,true,true,true,true,false,false,false,false,false,false,false,false,false,false,false] rfl rfl (any_of HT_.out (by kernel_rfl)) (fun _ _ _ h => h) (Or.inr ⟨by rfl,rfl⟩) ?_ ?_
    rotate_left
    ·simp only [Act.put,List.setIfInBounds_toArray,List.set_cons_zero,List.set_cons_succ,i64_w,i32_w]
     rfl
    refine pure_ (i:=7) (N:=some 19) (v:=undef) (a':=?_) #[true,true,true,true,true,true,true,true,false,false,false,false,false,false,false,false,false,false] rfl rfl (any_of HT_.out (by kernel_rfl)) (fun _ _ _ h => h) (Or.inr ⟨by rfl,rfl⟩) ?_ ?_
    rotate_left
    ·simp only [Act.put,List.setIfInBounds_toArray,List.set_cons_zero,List.set_cons_succ,i64_w,i32_w]
     rfl
    refine pure_ (i:=8) (N:=some 20) (v:=undef) (a':=?_) #[true,true,true,true,true,true,true,true,true,false,false,false,false,false,false,false,false,false] rfl rfl (any_of HT_.out (by kernel_rfl)) (fun _ _ _ h => h) (Or.inr ⟨by rfl,rfl⟩) ?_ ?_
    rotate_left
    ·simp only [Act.put,List.setIfInBounds_toArray,List.set_cons_zero,List.set_cons_succ,i64_w,i32_w]
     rfl
    refine pure_ (i:=9) (N:=some 21) (v:=undef) (a':=?_) #[true,true,true,true,true,true,true,true,true,true,false,false,false,false,false,false,false,false] rfl rfl (any_of HT_.out (by kernel_rfl)) (fun _ _ _ h => h) (Or.inr ⟨by rfl,rfl⟩) ?_ ?_
    rotate_left
    ·simp only [Act.put,List.setIfInBounds_toArray,List.set_cons_zero,List.set_cons_succ,i64_w,i32_w]
     rfl
    refine pure_ (i:=10) (N:=some 22) (v:=undef) (a':=?_) #[true,true,true,true,true,true,true,true,true,true,true,false,false,false,false,false,false,false] rfl rfl (any_of HT_.out (by kernel_rfl)) (fun _ _ _ h => h) (Or.inr ⟨by rfl,rfl⟩) ?_ ?_
    rotate_left
    ·simp only [Act.put,List.setIfInBounds_toArray,List.set_cons_zero,List.set_cons_succ,i64_w,i32_w]
     rfl
    refine pure_ (i:=11) (N:=some 23) (v:=undef) (a':=?_) #[true,true,true,true,true,true,true,true,true,true,true,true,false,false,false,false,false,false] rfl rfl (any_of HT_.out (by kernel_rfl)) (fun _ _ _ h => h) (Or.inr ⟨by rfl,rfl⟩) ?_ ?_
    rotate_left
    ·simp only [Act.put,List.setIfInBounds_toArray,List.set_cons_zero,List.set_cons_succ,i64_w,i32_w]
     rfl
    refine pure_ (i:=12) (N:=some 24) (v:=undef) (a':=?_) #[true,true,true,true,true,true,true,true,true,true,true,true,true,false,false,false,false,false] rfl rfl (any_of HT_.out (by kernel_rfl)) (fun _ _ _ h => h) (Or.inr ⟨by rfl,rfl⟩) ?_ ?_
    rotate_left
    ·simp only [Act.put,List.setIfInBounds_toArray,List.set_cons_zero,List.set_cons_succ,i64_w,i32_w]
     rfl
    refine pure_ (i:=13) (N:=some 25) (v:=undef) (a':=?_) #[true,true,true,true,true,true,true,true,true,true,true,true,true,true,false,false,false,false] rfl rfl (any_of HT_.out (by kernel_rfl)) (fun _ _ _ h => h) (Or.inr ⟨by rfl,rfl⟩) ?_ ?_
    rotate_left
    ·simp only [Act.put,List.setIfInBounds_toArray,List.set_cons_zero,List.set_cons_succ,i64_w,i32_w]
     rfl
    refine pure_ (i:=14) (N:=some 26) (v:=undef) (a':=?_) #[true,true,true,true,true,true,true,true,true,true,true,true,true,true,true,false,false,false] rfl rfl (any_of HT_.out (by kernel_rfl)) (fun _ _ _ h => h) (Or.inr ⟨by rfl,rfl⟩) ?_ ?_
    rotate_left
    ·simp only [Act.put,List.setIfInBounds_toArray,List.set_cons_zero,List.set_cons_succ,i64_w,i32_w]
     rfl
    refine pure_ (i:=15) (N:=some 27) (v:=undef) (a':=?_) #[true,true,true,true,true,true,true,true,true,true,true,true,true,true,true,true,false,false] rfl rfl (any_of HT_.out (by kernel_rfl)) (fun _ _ _ h => h) (Or.inr ⟨by rfl,rfl⟩) ?_ ?_
    rotate_left
    ·simp only [Act.put,List.setIfInBounds_toArray,List.set_cons_zero,List.set_cons_succ,i64_w,i32_w]
     rfl
    refine pure_ (i:=16) (N:=some 28) (v:=undef) (a':=?_) #[true,true,true,true,true,true,true,true,true,true,true,true,true,true,true,true,true,false] rfl rfl (any_of HT_.out (by kernel_rfl)) (fun _ _ _ h => h) (Or.inr ⟨by rfl,rfl⟩) ?_ ?_
    rotate_left
    ·simp only [Act.put,List.setIfInBounds_toArray,List.set_cons_zero,List.set_cons_succ,i64_w,i32_w]
     rfl
    refine pure_ (i:=17) (N:=some 29) (v:=?_) (a':=?_) #[true,true,true,true,true,true,true,true,true,true,true,true,true,true,true,true,true,true] rfl rfl (any_of HT_.out (by kernel_rfl)) (fun _ _ _ h => h) (Or.inl ⟨by rfl,?_⟩) ?_ ?_
    rotate_left
    ·intro w'
     go_simp
     with_reducible rfl
    rotate_left
    ·simp only [Act.put,List.setIfInBounds_toArray,List.set_cons_zero,List.set_cons_succ,i64_w,i32_w]
     rfl
    refine done_ (done_of HT_.out (by kernel_rfl)) ?_
    try go_wp2
    go_meet
    case rel => exact ⟨_,(true),q26_,H',⟨q35_⟩,⟨q22_⟩,⟨q12_⟩⟩
   clear HC5
   try clear c1
   try clear p1
   try clear q1
   try clear hx1
   try clear c2
   try clear c2b0
   try clear p2
   try clear c3
   try clear c3b0
   try clear c4
   try clear c4b0
   try clear c6
   try clear p6
   try clear c9
   try clear c10
   try clear c10b0
   try clear c12
   try clear c12b0
   try clear c13
   try clear c13b0
   try clear p14
   try clear q14
   try clear hx14
   try clear hcz7_0 hcz7_1 hcz7_2
   try clear hfz7_0 hfz7_1 hfz7_2
   try clear hx140_0
   try clear hx140_1
   try clear hx140_2
   try clear hx143_0
   try clear hx143_1
   try clear hx143_2
   try clear p140
   try clear p143
   try clear q140
   try clear q143
   obtain ⟨kq,x29_4,rfl,HA,HJ4,BK141,HB⟩:=hcut
   cases kq with
   | zero => exact absurd HA.out (by simp [impl_areSyms.j1])
   | succ kj4 =>
    have H:=HA.out
    clear HA
    simp only [impl_areSyms.j1] at H
    by_cases c23:x29_4 = true
    ·subst c23
     rewrite [if_pos rfl] at H
     obtain rfl:=Option.some.inj H
     go_wp2
     go_ret
     exact ⟨q21_,q12_⟩
    replace c23:=Bool.eq_false_iff.mpr c23
    subst c23
    rewrite [if_neg (show ¬ (false = true) by decide)] at H
    have H':=Aside0.mk H
    clear H
    go_wp2
    go_roundg kj4
    case measure => have:=HK1.out;have:=HJ4.out;omega
    case rel => exact ⟨(wrap64 (x7_1 + 1)),q26_,H',⟨by have:=HK1.out;have:=HJ4.out;omega⟩,⟨q12_⟩⟩
  rw [if_neg c2] at H
  have c2b0:=decide_eq_false c2
  clear c2
  obtain rfl:=Option.some.inj H
  go_wp2
  go_ret
  exact ⟨q21_,q20_⟩
def impl_SymText.f (k:Nat) (l0:List (S54)):Option (ByteArray):=(impl_areSyms.f k l0).bind fun t144 => (if t144 = true then ((impl_symText.f k l0).bind fun t145 => (some t145)) else (some (⟨#[]⟩:ByteArray)))
theorem impl_SymText.calls (k:Nat) (A0:Option Addr) (c0:Nat) (l0:List (S54)) (r:ByteArray) (w:World) (hr0:Kd.C k54 w A0 l0.length l0) (hc0:l0.length ≤ c0) (h:impl_SymText.f k l0 = some r) (hG:Go.Proofs.YtoiiaklmjpiejaaDoor.LibW.GL w:=by first | exact hG | exact hG.below q2_ | exact hG.drewN _) :
  Calls Tryd.prog 20 #[.slice A0 l0.length c0] w fun e w' => e = .returned (.string r) ∧ Below w.heap.size w w':=by
 have HR0:=Aside0.mk hr0
 have HC0:=Aside0.mk hc0
 clear hr0 hc0
 have HB:=Aside0.mk (Below.refl w.heap.size w)
 have H:=h;unfold impl_SymText.f at H
 clear h
 replace H:=Option.bind_eq_some_iff.mp H
 obtain ⟨t144,A20,H⟩:=H
 have A2:=Aside0.mk A20
 clear A20
 by_cases c3:t144 = true
 ·subst c3
  rewrite [if_pos rfl] at H
  replace H:=Option.bind_eq_some_iff.mp H
  obtain ⟨t145,A40,H⟩:=H
  have A4:=Aside0.mk A40
  clear A40
  obtain rfl:=Option.some.inj H
  go_enter Tryd.func20,Tryd.ntmps20
  go_wp2_with (first | ((with_reducible refine gate_callee (f:=47) rfl ?_);refine goesL_ (some 4) rfl rfl Tryd.func47 (by kernel_rfl) rfl #[.slice A0 l0.length c0] rfl q19_ ?_;(with_reducible refine (impl_areSyms.calls k _ _ l0 true _ ?side1 ?side2 A2.out).mono ?_);(case side1 => exact q48_);(case side2 => exact HC0.out);rintro e w5 ⟨rfl,hb⟩;refine ⟨_,rfl,?_⟩;replace HB:=Aside0.mk (below_step q20_ hb);(try clear hb)) | ((with_reducible refine gate_callee (f:=48) rfl ?_);refine goesL_ (some 7) rfl rfl Tryd.func48 (by kernel_rfl) rfl #[.slice A0 l0.length c0] rfl q19_ ?_;(with_reducible refine (impl_symText.calls k _ _ l0 t145 _ ?side1 ?side2 A4.out).mono ?_);(case side1 => exact q41_);(case side2 => exact HC0.out);rintro e w6 ⟨rfl,hb⟩;refine ⟨_,rfl,?_⟩;replace HB:=Aside0.mk (below_step q20_ hb);(try clear hb)))
  go_ret
  exact ⟨q21_,q20_⟩
 replace c3:=Bool.eq_false_iff.mpr c3
 subst c3
 rewrite [if_neg (show ¬ (false = true) by decide)] at H
 obtain rfl:=Option.some.inj H
 go_enter Tryd.func20,Tryd.ntmps20
 go_wp2_with (first | ((with_reducible refine gate_callee (f:=47) rfl ?_);refine goesL_ (some 4) rfl rfl Tryd.func47 (by kernel_rfl) rfl #[.slice A0 l0.length c0] rfl q19_ ?_;(with_reducible refine (impl_areSyms.calls k _ _ l0 false _ ?side1 ?side2 A2.out).mono ?_);(case side1 => exact q48_);(case side2 => exact HC0.out);rintro e w7 ⟨rfl,hb⟩;refine ⟨_,rfl,?_⟩;replace HB:=Aside0.mk (below_step q20_ hb);(try clear hb)))
 go_ret
 exact ⟨q21_,q20_⟩
def stringslite_HasPrefix.f (a0:ByteArray) (a1:ByteArray):Option (Bool):=if (a0.size:Int) ≥ (a1.size:Int) then (if 0 ≤ (a1.size:Int) then (if (a1.size:Int) ≤ (a0.size:Int) then (some ((a0.extract 0 ((a1.size:Int):Int).toNat).toList == a1.toList)) else (none)) else (none)) else (some false)
theorem stringslite_HasPrefix.calls (a0:ByteArray) (a1:ByteArray) (r:Bool) (w:World) (h:stringslite_HasPrefix.f a0 a1 = some r) :
  Calls Tryd.prog 96 #[.string a0,.string a1] w fun e w' => e = .returned (.bool r) ∧ Drawn0 w w':=by
 have H:=h;unfold stringslite_HasPrefix.f at H
 clear h
 by_cases c3:(a0.size:Int) ≥ (a1.size:Int)
 ·rw [if_pos c3] at H
  have c3b0:decide ((a1.size:Int) ≤ (a0.size:Int)) = true:=decide_eq_true c3
  have c3b1:decide (a1.size ≤ a0.size) = true:=decide_eq_true (Int.ofNat_le.mp c3)
  clear c3
  by_cases c4:0 ≤ (a1.size:Int)
  rotate_left
  ·rw [if_neg c4] at H
   exact absurd H (by simp)
  rw [if_pos c4] at H
  have c4b0:=eq_true c4
  have c4b1:=decide_eq_true c4
  clear c4
  by_cases c5:(a1.size:Int) ≤ (a0.size:Int)
  rotate_left
  ·rw [if_neg c5] at H
   exact absurd H (by simp)
  rw [if_pos c5] at H
  have c5b0:=eq_true c5
  have c5b1:=decide_eq_true c5
  clear c5
  obtain rfl:=Option.some.inj H
  go_enter Tryd.func96,Tryd.ntmps96
  go_wp2
  go_ret
  exact ⟨q26_,q34_⟩
 rw [if_neg c3] at H
 have c3b0:decide ((a1.size:Int) ≤ (a0.size:Int)) = false:=decide_eq_false c3
 have c3b1:decide (a1.size ≤ a0.size) = false:=decide_eq_false (fun h => c3 (Int.ofNat_le.mpr h))
 clear c3
 obtain rfl:=Option.some.inj H
 go_enter Tryd.func96,Tryd.ntmps96
 go_wp2
 go_ret
 exact ⟨q26_,q34_⟩
def strings_HasPrefix.f (a0:ByteArray) (a1:ByteArray):Option (Bool):=(stringslite_HasPrefix.f a0 a1).bind fun t146 => (some t146)
theorem strings_HasPrefix.calls (a0:ByteArray) (a1:ByteArray) (r:Bool) (w:World) (h:strings_HasPrefix.f a0 a1 = some r) :
  Calls Tryd.prog 72 #[.string a0,.string a1] w fun e w' => e = .returned (.bool r) ∧ Drawn0 w w':=by
 have H:=h;unfold strings_HasPrefix.f at H
 clear h
 replace H:=Option.bind_eq_some_iff.mp H
 obtain ⟨t146,A30,H⟩:=H
 have A3:=Aside0.mk A30
 clear A30
 obtain rfl:=Option.some.inj H
 go_enter Tryd.func72,Tryd.ntmps72
 go_wp2_with (first | ((with_reducible refine gate_callee (f:=96) rfl ?_);refine goesL_ (some 7) rfl rfl Tryd.func96 (by kernel_rfl) rfl #[.string a0,.string a1] rfl q19_ ?_;(with_reducible refine (stringslite_HasPrefix.calls a0 a1 t146 _ A3.out).mono ?_);rintro e w' ⟨rfl,⟨nd,rfl⟩⟩;refine ⟨_,rfl,?_⟩))
 go_ret
 exact ⟨q26_,q34_⟩
end Go.Proofs.YtoiiaklmjpiejaaDoor.QFnSymTexts
