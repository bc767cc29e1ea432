/- The machine's side of a law,written by a program of this session for this claim. -/
import Derived.Test.YtoiiaklmjpiejaaDoorBQq
import Derived.Test.YtoiiaklmjpiejaaDoorBQFnLinesx0
import Derived.Test.YtoiiaklmjpiejaaDoorBQFnLinesx1
import Derived.Test.YtoiiaklmjpiejaaDoorBQFnLinesx2
import Derived.Test.YtoiiaklmjpiejaaDoorBQFnLinesx4
import Derived.Test.YtoiiaklmjpiejaaDoorBQFnLinesx6
import Derived.Test.YtoiiaklmjpiejaaDoorBQFnLinesx9
import Derived.Test.YtoiiaklmjpiejaaDoorBQFnLinesx10
import Derived.Test.YtoiiaklmjpiejaaDoorBQFnLinesx12
namespace Go.Proofs.YtoiiaklmjpiejaaDoor.QFnLines
open Go.Proofs.YtoiiaklmjpiejaaDoor.Qq
open Go.RowKit Go.Proofs.YtoiiaklmjpiejaaDoor.LibX Go.Proofs.YtoiiaklmjpiejaaDoor.LibE Go.Proofs.YtoiiaklmjpiejaaDoor.LibCB Go.Proofs.YtoiiaklmjpiejaaDoor.LibT Go.Proofs.YtoiiaklmjpiejaaDoorW.PrintWords Go.Proofs.YtoiiaklmjpiejaaDoorW.PrintLast Go.Proofs.YtoiiaklmjpiejaaDoorW.PrintMore
attribute [local go_sem] max2_int min2_int max_two min_two max_three min_three max_four min_four   -- for this text's walks alone
set_option maxHeartbeats 8000000
set_option maxRecDepth 100000
set_option linter.unusedVariables false
set_option linter.unusedSimpArgs false
attribute [local go_sem high] eqA29
mutual
def laws_FnLines.j0:Nat → List Int → ByteArray → Bool → ByteArray → ByteArray → ByteArray → Option (Bool)
 | 0,_,_,_,_,_,_ => none
 | k + 1,x0,x4,x32,x277000,x277001,x277002 => if x32 = true then (some false) else ((impl_LineOk.f k x277000 x277001 x277002).bind fun t281 => (if t281 = true then ((impl_ReadLine.f k x4).bind fun bt282 => (if 2 + x4.size ≤ 9223372036854775807 then (if ((⟨#[32,32]⟩:ByteArray) ++ x4).size + 7 ≤ 9223372036854775807 then ((impl_ReadLine.f k (((⟨#[32,32]⟩:ByteArray) ++ x4) ++ (⟨#[32,59,32,120,58,32,121]⟩:ByteArray))).bind fun bt287 => (if bt282.2.2.2 = true then (if (!(bt282.1.toList == x277000.toList) || (!(bt282.2.1.toList == x277001.toList) || (!(bt282.2.2.1.toList == x277002.toList)))) = true then (laws_FnLines.j1 k x0 true) else (if bt287.2.2.2 = true then (laws_FnLines.j1 k x0 (!(bt287.1.toList == x277000.toList) || (!(bt287.2.1.toList == x277001.toList) || (!(bt287.2.2.1.toList == x277002.toList))))) else (laws_FnLines.j1 k x0 true))) else (laws_FnLines.j1 k x0 true))) else (none)) else (none))) else (laws_FnLines.j2 k x0)))
def laws_FnLines.j2:Nat → List Int → Option (Bool)
 | 0,_ => none
 | k + 1,x0 => (spec_DrawReadLine.f k x0).bind fun t292 => ((impl_ReadLine.f k t292).bind fun bt293 => ((spec_ReadLine.f k t292).bind fun bt298 => (if (!(bt293.1.toList == bt298.1.toList) || (!(bt293.2.1.toList == bt298.2.1.toList) || (!(bt293.2.2.1.toList == bt298.2.2.1.toList)))) = true then (laws_FnLines.j3 k bt293.2.2.2 bt298.2.2.2 true bt293.1 bt293.2.1 bt293.2.2.1 bt298.1 bt298.2.1 bt298.2.2.1) else (if (bt293.2.2.2 != bt298.2.2.2) = true then (laws_FnLines.j3 k bt293.2.2.2 bt298.2.2.2 true bt293.1 bt293.2.1 bt293.2.2.1 bt298.1 bt298.2.1 bt298.2.2.1) else (laws_FnLines.j3 k bt293.2.2.2 bt298.2.2.2 (!bt293.2.2.2) bt293.1 bt293.2.1 bt293.2.2.1 bt298.1 bt298.2.1 bt298.2.2.1)))))
def laws_FnLines.j3:Nat → Bool → Bool → Bool → ByteArray → ByteArray → ByteArray → ByteArray → ByteArray → ByteArray → Option (Bool)
 | 0,_,_,_,_,_,_,_,_,_ => none
 | k + 1,x11,x13,x86,x298000,x298001,x298002,x303000,x303001,x303002 => if x86 = true then (if (x298000.toList == x303000.toList && (x298001.toList == x303001.toList && (x298002.toList == x303002.toList))) = true then (some (x11 == x13)) else (some false)) else ((impl_LineText.f k x298000 x298001 x298002).bind fun t303 => ((impl_ReadLine.f k t303).bind fun bt304 => ((impl_LineOk.f k x298000 x298001 x298002).bind fun t309 => (if t309 = true then (if bt304.2.2.2 = true then (some (bt304.1.toList == x298000.toList && (bt304.2.1.toList == x298001.toList && (bt304.2.2.1.toList == x298002.toList)))) else (some false)) else (some false)))))
def laws_FnLines.j1:Nat → List Int → Bool → Option (Bool)
 | 0,_,_ => none
 | k + 1,x0,x62 => if x62 = true then (some false) else (laws_FnLines.j2 k x0)
end
def laws_FnLines.f (k:Nat) (l0:List Int):Option (Bool):=(laws_big.f l0).bind fun t272 => (if t272 = true then (some true) else ((spec_DrawLineText.f k l0).bind fun bt273 => ((impl_LineText.f k bt273.1 bt273.2.1 bt273.2.2).bind fun t277 => ((spec_LineText.f k bt273.1 bt273.2.1 bt273.2.2).bind fun t278 => (if t277.toList = t278.toList then ((impl_LineOk.f k bt273.1 bt273.2.1 bt273.2.2).bind fun t279 => ((spec_LineOk.f k bt273.1 bt273.2.1 bt273.2.2).bind fun t280 => (laws_FnLines.j0 k l0 t277 (t279 != t280) bt273.1 bt273.2.1 bt273.2.2))) else (laws_FnLines.j0 k l0 t277 true bt273.1 bt273.2.1 bt273.2.2))))))
def laws_FnLines.T5:Bool × List (List Nat × List Nat):=(true,[([],[]),([],[]),([1],[1]),([0,2],[0,2]),([3,2],[3]),([4],[4]),([5,4,4],[4,5]),([4],[4]),([7,6,4],[4,7]),([6,8,4],[4,6,8]),([4,9],[4,9])])
def laws_FnLines.B5:List Nat:=[0,0,2,7,15,31,63,31,255,511,1023]
theorem laws_FnLines.tab5:rtab .any (opsOf Tryd.f4 5) = laws_FnLines.T5:=by kernel_rfl
theorem laws_FnLines.bits5:waitsOk laws_FnLines.T5.2 laws_FnLines.B5 = true:=by kernel_rfl
theorem laws_FnLines.calls (k:Nat) (A0:Option Addr) (c0:Nat) (l0:List Int) (r:Bool) (w:World) (hr0:Kd.C (Kd.int .u8) w A0 l0.length l0) (hc0:l0.length ≤ c0) (h:laws_FnLines.f k l0 = some r) (hG:Go.Proofs.YtoiiaklmjpiejaaDoor.LibW.GL w:=by first | exact hG | exact hG.below q18_ | exact hG.drewN _) :
  Calls Tryd.prog 4 #[.slice A0 l0.length c0] w fun e w' => e = .returned (.bool r) ∧ Below w.heap.size w w':=by
 have hu29:=Tryd.underlying29
 have HR0:=Aside0.mk hr0
 have HC0:=Aside0.mk hc0
 clear hr0 hc0
 have HB:=Aside0.mk (Below.refl w.heap.size w)
 have H:=h;unfold laws_FnLines.f at H
 clear h
 replace H:=Option.bind_eq_some_iff.mp H
 obtain ⟨t272,A20,H⟩:=H
 have A2:=Aside0.mk A20
 clear A20
 by_cases c3:t272 = true
 ·subst c3
  rewrite [if_pos rfl] at H
  obtain rfl:=Option.some.inj H
  go_enter Tryd.func4,Tryd.ntmps4
  go_wp2_with (first | ((with_reducible refine gate_callee (f:=6) rfl ?_);refine goesL_ (some 17) rfl rfl Tryd.func6 (by kernel_rfl) rfl #[.slice A0 l0.length c0] rfl q82_ ?_;(with_reducible refine (laws_big.calls _ _ l0 true _ ?side1 ?side2 A2.out).mono ?_);(case side1 => exact q127_);(case side2 => exact HC0.out);rintro e w' ⟨rfl,⟨nd,rfl⟩⟩;refine ⟨_,rfl,?_⟩))
  go_ret
  exact ⟨q84_,q83_⟩
 replace c3:=Bool.eq_false_iff.mpr c3
 subst c3
 rewrite [if_neg (show ¬ (false = true) by decide)] at H
 replace H:=Option.bind_eq_some_iff.mp H
 obtain ⟨⟨t273,t274,t275⟩,A40,H⟩:=H
 try dsimp -simprocs -eta only at H
 have A4:=Aside0.mk A40
 clear A40
 replace H:=Option.bind_eq_some_iff.mp H
 obtain ⟨t277,A50,H⟩:=H
 have A5:=Aside0.mk A50
 clear A50
 have HC6:=Aside0.mk H
 clear H
 go_enter Tryd.func4,Tryd.ntmps4
 go_upto_region 5 with (first | ((with_reducible refine gate_callee (f:=6) rfl ?_);refine goesL_ (some 17) rfl rfl Tryd.func6 (by kernel_rfl) rfl #[.slice A0 l0.length c0] rfl q82_ ?_;(with_reducible refine (laws_big.calls _ _ l0 false _ ?side1 ?side2 A2.out).mono ?_);(case side1 => exact q127_);(case side2 => exact HC0.out);rintro e w' ⟨rfl,⟨nd,rfl⟩⟩;refine ⟨_,rfl,?_⟩) | ((with_reducible refine gate_callee (f:=11) rfl ?_);refine goesL_ (some 19) rfl rfl Tryd.func11 (by kernel_rfl) rfl #[.slice A0 l0.length c0] rfl q82_ ?_;(with_reducible refine (spec_DrawLineText.calls k _ _ l0 t273 t274 t275 _ ?side1 ?side2 A4.out).mono ?_);(case side1 => exact q127_);(case side2 => exact HC0.out);rintro e w7 ⟨rfl,hb⟩;refine ⟨_,rfl,?_⟩;replace HB:=Aside0.mk (below_step q83_ hb);(try clear hb)) | ((with_reducible refine gate_dst (N:=3) rfl ?_);refine box_event ?hg (N:=3) ?hd (cs:=#[.string (⟨#[]⟩:ByteArray),.string (⟨#[]⟩:ByteArray),.string (⟨#[]⟩:ByteArray)]) (t:=29) ?hr ?_;(case hd => rfl);(case hg => rfl);(case hr => exact q130_);intro gb276 hg w8 hbox hb;have n0_:=Aside0.mk (below_step q83_ hb);have n1_:=Aside0.mk (hbox);have n2_:=Aside0.mk ((q64_:w.heap.size ≤ gb276));have n3_:=Aside0.mk ((q64_:w.heap.size ≤ gb276));clear HB;have HB:=n0_;have BK276:=n1_;have GW276:=n2_;have GE276:=n3_;clear n0_ n1_ n2_ n3_;clear hb hbox hg;have hcz9_0:w8.cell? ⟨gb276,0,none⟩ = some (.string (⟨#[]⟩:ByteArray)):=(blk_cell BK276.out 0).trans rfl;have hcz9_1:w8.cell? ⟨gb276,1,none⟩ = some (.string (⟨#[]⟩:ByteArray)):=(blk_cell BK276.out 1).trans rfl;have hcz9_2:w8.cell? ⟨gb276,2,none⟩ = some (.string (⟨#[]⟩:ByteArray)):=(blk_cell BK276.out 2).trans rfl;have hfz9_0:=blk_frozen BK276.out 0;have hfz9_1:=blk_frozen BK276.out 1;have hfz9_2:=blk_frozen BK276.out 2) | ((with_reducible refine gate_callee (f:=12) rfl ?_);refine goesL_ (some 21) rfl rfl Tryd.func12 (by kernel_rfl) rfl #[.agg #[.string t273,.string t274,.string t275]] rfl q82_ ?_;(with_reducible refine (impl_LineText.calls k t273 t274 t275 t277 _ A5.out).mono ?_);rintro e w10 ⟨rfl,hb⟩;refine ⟨_,rfl,?_⟩;have n0_:=Aside0.mk (blk_below (g:=gb276) (o:=.cells #[.string t273,.string t274,.string t275] 29 (0,0)) (by (with_reducible repeat (first | refine blk_drewN ?_ _ | refine blk_drew ?_ | refine blk_alloc ?_ _));refine blk_put (cs:=#[.string t273,.string t274,.string (⟨#[]⟩:ByteArray)]) ?_ 2 _ rfl;(with_reducible repeat (first | refine blk_drewN ?_ _ | refine blk_drew ?_ | refine blk_alloc ?_ _));refine blk_put (cs:=#[.string t273,.string (⟨#[]⟩:ByteArray),.string (⟨#[]⟩:ByteArray)]) ?_ 1 _ rfl;(with_reducible repeat (first | refine blk_drewN ?_ _ | refine blk_drew ?_ | refine blk_alloc ?_ _));refine blk_put (cs:=#[.string (⟨#[]⟩:ByteArray),.string (⟨#[]⟩:ByteArray),.string (⟨#[]⟩:ByteArray)]) ?_ 0 _ rfl;(with_reducible repeat (first | refine blk_drewN ?_ _ | refine blk_drew ?_ | refine blk_alloc ?_ _));exact BK276.out) hb);have n1_:=Aside0.mk (below_step q74_ hb);clear BK276;clear HB;have BK276:=n0_;have HB:=n1_;clear n0_ n1_;(try clear hb)))
 (try simp only [Act.put,List.setIfInBounds_toArray,List.set_cons_zero,List.set_cons_succ])
 go_cut [32] (fun v32 wc => ∃ (kq:Nat) (x32_5:Bool),v32 = .bool x32_5 ∧ Aside0 (laws_FnLines.j0 kq l0 t277 x32_5 t273 t274 t275 = some r) ∧ Aside0 (kq ≤ k) ∧ Aside0 (wc.heap[gb276]? = some (.cells #[.string t273,.string t274,.string t275] 29 (0,0))) ∧ Aside0 (Below w.heap.size w wc))
 case first =>
  have H:=HC6.out
  clear HC6
  replace H:=Option.bind_eq_some_iff.mp H
  obtain ⟨t278,A110,H⟩:=H
  have A11:=Aside0.mk A110
  clear A110
  by_cases c12:t277.toList = t278.toList
  ·rw [if_pos c12] at H
   have c12b0:(t277.toList == t278.toList) = true:=beq_iff_eq.mpr c12
   have c12b1:(t277.toList != t278.toList) = false:=bne_eq_false_iff_eq.mpr c12
   clear c12
   (first | rw [c12b0] | (simp only [i64_w,i32_w];rw [c12b0]) | rw [c12b9] | skip)
   replace H:=Option.bind_eq_some_iff.mp H
   obtain ⟨t279,A130,H⟩:=H
   have A13:=Aside0.mk A130
   clear A130
   replace H:=Option.bind_eq_some_iff.mp H
   obtain ⟨t280,A140,H⟩:=H
   have A14:=Aside0.mk A140
   clear A140
   have H':=Aside0.mk H
   clear H
   try go_wp2
   have n0_:=Aside0.mk (blk_drew BK276.out)
   have n1_:=Aside0.mk (below_drew1 HB.out)
   clear BK276
   clear HB
   have BK276:=n0_
   have HB:=n1_
   clear n0_ n1_
   refine start_ (n:=11) (S:=fun w' => w'.cell? ⟨gb276,0,none⟩ = some (.string t273) ∧ w'.cell? ⟨gb276,1,none⟩ = some (.string t274) ∧ w'.cell? ⟨gb276,2,none⟩ = some (.string t275)) (ds:=[]) #[false,false,false,false,false,false,false,false,false,false,false] (by kernel_rfl) rfl rfl ⟨(blk_cell BK276.out 0).trans rfl,(blk_cell BK276.out 1).trans rfl,(blk_cell BK276.out 2).trans rfl⟩ (fun hHeld => ?_);refine with_tabW laws_FnLines.tab5 laws_FnLines.bits5 (fun HT_ HW_ => ?_)
   generalize w10.drew = w15 at BK276 HB hHeld ⊢
   refine pure_ (i:=0) (N:=some 22) (v:=?_) (a':=?_) #[true,false,false,false,false,false,false,false,false,false,false] rfl rfl (any_of HT_.out (by kernel_rfl)) (fun _ _ _ h => h) (Or.inl ⟨by rfl,?_⟩) ?_ ?_
   rotate_left
   ·intro w'
    go_simp
    with_reducible rfl
   rotate_left
   ·simp only [Act.put,List.setIfInBounds_toArray,List.set_cons_zero,List.set_cons_succ,i64_w,i32_w]
    rfl
   refine take_ (i:=1) (N:=some 23) (v:=?_) (a':=?_) #[true,true,false,false,false,false,false,false,false,false,false] rfl rfl (take_ofW HT_.out HW_.out (by kernel_rfl)) (fun _ _ _ h => h) (Or.inl ⟨by rfl,?_⟩) hHeld ?_ ?_
   rotate_left
   ·rintro w' ⟨s0,s1,s2⟩
    go_simp
    with_reducible rfl
   rotate_left
   ·simp only [Act.put,List.setIfInBounds_toArray,List.set_cons_zero,List.set_cons_succ,i64_w,i32_w]
    rfl
   refine one_ (i:=2) (N:=some 24) #[true,true,true,false,false,false,false,false,false,false,false] rfl rfl (one_of HT_.out (by kernel_rfl)) (by decide) (fun K hK => ?_)
   refine goes_ Tryd.func13 (by kernel_rfl) rfl #[.agg #[.string t273,.string t274,.string t275]] (by rfl) rfl rfl q82_ ?_
   with_reducible refine (spec_LineText.calls k t273 t274 t275 t278 _ A11.out).mono ?_
   rintro e w16 ⟨rfl,hb⟩
   refine ⟨_,rfl,?_⟩
   have n0_:=Aside0.mk (blk_below (g:=gb276) (o:=.cells #[.string t273,.string t274,.string t275] 29 (0,0)) q96_ hb)
   have n1_:=Aside0.mk (below_step q74_ hb)
   clear BK276
   clear HB
   have BK276:=n0_
   have HB:=n1_
   clear n0_ n1_
   (try clear hb)
   (try clear hb2)
   (try clear hk)
   (try clear hi)
   refine hK.out _ _ ⟨(blk_cell BK276.out 0).trans rfl,(blk_cell BK276.out 1).trans rfl,(blk_cell BK276.out 2).trans rfl⟩ (fun hHeld => ?_)
   clear hK K
   refine norm_ (a':=?_) ?_ ?_
   rotate_left
   ·show Act.put _ (some 24) _ = _
    simp only [Act.put,List.setIfInBounds_toArray,List.set_cons_zero,List.set_cons_succ,i64_w,i32_w]
    rfl
   refine pure_ (i:=3) (N:=some 25) (v:=?_) (a':=?_) #[true,true,true,true,false,false,false,false,false,false,false] rfl rfl (any_of HT_.out (by kernel_rfl)) (fun _ _ _ h => h) (Or.inl ⟨by rfl,?_⟩) ?_ ?_
   rotate_left
   ·intro w'
    go_simp
    with_reducible rfl
   rotate_left
   ·simp only [Act.put,List.setIfInBounds_toArray,List.set_cons_zero,List.set_cons_succ,i64_w,i32_w]
    rfl
   refine pure_ (i:=4) (N:=some 26) (v:=?_) (a':=?_) #[true,true,true,true,true,false,false,false,false,false,false] rfl rfl (any_of HT_.out (by kernel_rfl)) (fun _ _ _ h => h) (Or.inl ⟨by rfl,?_⟩) ?_ ?_
   rotate_left
   ·intro w'
    go_simp
    with_reducible rfl
   rotate_left
   ·simp only [Act.put,List.setIfInBounds_toArray,List.set_cons_zero,List.set_cons_succ,i64_w,i32_w]
    rfl
   refine take_ (i:=5) (N:=some 27) (v:=?_) (a':=?_) #[true,true,true,true,true,true,false,false,false,false,false] rfl rfl (take_ofW HT_.out HW_.out (by kernel_rfl)) (fun _ _ _ h => h) (Or.inl ⟨by rfl,?_⟩) hHeld ?_ ?_
   rotate_left
   ·rintro w' ⟨s0,s1,s2⟩
    go_simp
    with_reducible rfl
   rotate_left
   ·simp only [Act.put,List.setIfInBounds_toArray,List.set_cons_zero,List.set_cons_succ,i64_w,i32_w]
    rfl
   refine take_ (i:=7) (N:=some 29) (v:=?_) (a':=?_) #[true,true,true,true,true,true,false,true,false,false,false] rfl rfl (take_ofW HT_.out HW_.out (by kernel_rfl)) (fun _ _ _ h => h) (Or.inl ⟨by rfl,?_⟩) hHeld ?_ ?_
   rotate_left
   ·rintro w' ⟨s0,s1,s2⟩
    go_simp
    with_reducible rfl
   rotate_left
   ·simp only [Act.put,List.setIfInBounds_toArray,List.set_cons_zero,List.set_cons_succ,i64_w,i32_w]
    rfl
   refine one_ (i:=6) (N:=some 28) #[true,true,true,true,true,true,true,true,false,false,false] rfl rfl (one_of HT_.out (by kernel_rfl)) (by decide) (fun K hK => ?_)
   refine goes_ Tryd.func14 (by kernel_rfl) rfl #[.agg #[.string t273,.string t274,.string t275]] (by rfl) rfl rfl q82_ ?_
   with_reducible refine (impl_LineOk.calls k t273 t274 t275 t279 _ A13.out).mono ?_
   rintro e w17 ⟨rfl,hb⟩
   refine ⟨_,rfl,?_⟩
   have n0_:=Aside0.mk (blk_below (g:=gb276) (o:=.cells #[.string t273,.string t274,.string t275] 29 (0,0)) q96_ hb)
   have n1_:=Aside0.mk (below_step q74_ hb)
   clear BK276
   clear HB
   have BK276:=n0_
   have HB:=n1_
   clear n0_ n1_
   (try clear hb)
   (try clear hb2)
   (try clear hk)
   (try clear hi)
   refine hK.out _ _ ⟨(blk_cell BK276.out 0).trans rfl,(blk_cell BK276.out 1).trans rfl,(blk_cell BK276.out 2).trans rfl⟩ (fun hHeld => ?_)
   clear hK K
   refine norm_ (a':=?_) ?_ ?_
   rotate_left
   ·show Act.put _ (some 28) _ = _
    simp only [Act.put,List.setIfInBounds_toArray,List.set_cons_zero,List.set_cons_succ,i64_w,i32_w]
    rfl
   refine one_ (i:=8) (N:=some 30) #[true,true,true,true,true,true,true,true,true,false,false] rfl rfl (one_of HT_.out (by kernel_rfl)) (by decide) (fun K hK => ?_)
   refine goes_ Tryd.func15 (by kernel_rfl) rfl #[.agg #[.string t273,.string t274,.string t275]] (by rfl) rfl rfl q82_ ?_
   with_reducible refine (spec_LineOk.calls k t273 t274 t275 t280 _ A14.out).mono ?_
   rintro e w18 ⟨rfl,hb⟩
   refine ⟨_,rfl,?_⟩
   have n0_:=Aside0.mk (blk_below (g:=gb276) (o:=.cells #[.string t273,.string t274,.string t275] 29 (0,0)) q96_ hb)
   have n1_:=Aside0.mk (below_step q74_ hb)
   clear BK276
   clear HB
   have BK276:=n0_
   have HB:=n1_
   clear n0_ n1_
   (try clear hb)
   (try clear hb2)
   (try clear hk)
   (try clear hi)
   refine hK.out _ _ ⟨(blk_cell BK276.out 0).trans rfl,(blk_cell BK276.out 1).trans rfl,(blk_cell BK276.out 2).trans rfl⟩ (fun hHeld => ?_)
   clear hK K
   refine norm_ (a':=?_) ?_ ?_
   rotate_left
   ·show Act.put _ (some 30) _ = _
    simp only [Act.put,List.setIfInBounds_toArray,List.set_cons_zero,List.set_cons_succ,i64_w,i32_w]
    rfl
   refine pure_ (i:=9) (N:=some 31) (v:=?_) (a':=?_) #[true,true,true,true,true,true,true,true,true,true,false] rfl rfl (any_of HT_.out (by kernel_rfl)) (fun _ _ _ h => h) (Or.inl ⟨by rfl,?_⟩) ?_ ?_
   rotate_left
   ·intro w'
    go_simp
    with_reducible rfl
   rotate_left
   ·simp only [Act.put,List.setIfInBounds_toArray,List.set_cons_zero,List.set_cons_succ,i64_w,i32_w]
    rfl
   refine pure_ (i:=10) (N:=some 32) (v:=?_) (a':=?_) #[true,true,true,true,true,true,true,true,true,true,true] rfl rfl (any_of HT_.out (by kernel_rfl)) (fun _ _ _ h => h) (Or.inl ⟨by rfl,?_⟩) ?_ ?_
   rotate_left
   ·intro w'
    go_simp
    with_reducible rfl
   rotate_left
   ·simp only [Act.put,List.setIfInBounds_toArray,List.set_cons_zero,List.set_cons_succ,i64_w,i32_w]
    rfl
   refine done_ (done_of HT_.out (by kernel_rfl)) ?_
   try go_wp2
   go_meet
   case rel => exact ⟨_,((t279 != t280)),q101_,H',⟨q115_⟩,⟨q96_⟩,⟨q74_⟩⟩
  rw [if_neg c12] at H
  have c12b0:(t277.toList == t278.toList) = false:=beq_eq_false_iff_ne.mpr c12
  have c12b1:(t277.toList != t278.toList) = true:=bne_iff_ne.mpr c12
  (first | rw [c12b0] | (simp only [i64_w,i32_w];rw [c12b0]) | rw [c12b9] | skip)
  have H':=Aside0.mk H
  clear H
  try go_wp2
  have n0_:=Aside0.mk (blk_drew BK276.out)
  have n1_:=Aside0.mk (below_drew1 HB.out)
  clear BK276
  clear HB
  have BK276:=n0_
  have HB:=n1_
  clear n0_ n1_
  refine start_ (n:=11) (S:=fun w' => w'.cell? ⟨gb276,0,none⟩ = some (.string t273) ∧ w'.cell? ⟨gb276,1,none⟩ = some (.string t274) ∧ w'.cell? ⟨gb276,2,none⟩ = some (.string t275)) (ds:=[]) #[false,false,false,false,false,false,false,false,false,false,false] (by kernel_rfl) rfl rfl ⟨(blk_cell BK276.out 0).trans rfl,(blk_cell BK276.out 1).trans rfl,(blk_cell BK276.out 2).trans rfl⟩ (fun hHeld => ?_);refine with_tabW laws_FnLines.tab5 laws_FnLines.bits5 (fun HT_ HW_ => ?_)
  generalize w10.drew = w19 at BK276 HB hHeld ⊢
  refine pure_ (i:=0) (N:=some 22) (v:=?_) (a':=?_) #[true,false,false,false,false,false,false,false,false,false,false] rfl rfl (any_of HT_.out (by kernel_rfl)) (fun _ _ _ h => h) (Or.inl ⟨by rfl,?_⟩) ?_ ?_
  rotate_left
  ·intro w'
   go_simp
   with_reducible rfl
  rotate_left
  ·simp only [Act.put,List.setIfInBounds_toArray,List.set_cons_zero,List.set_cons_succ,i64_w,i32_w]
   rfl
  refine take_ (i:=1) (N:=some 23) (v:=?_) (a':=?_) #[true,true,false,false,false,false,false,false,false,false,false] rfl rfl (take_ofW HT_.out HW_.out (by kernel_rfl)) (fun _ _ _ h => h) (Or.inl ⟨by rfl,?_⟩) hHeld ?_ ?_
  rotate_left
  ·rintro w' ⟨s0,s1,s2⟩
   go_simp
   with_reducible rfl
  rotate_left
  ·simp only [Act.put,List.setIfInBounds_toArray,List.set_cons_zero,List.set_cons_succ,i64_w,i32_w]
   rfl
  refine one_ (i:=2) (N:=some 24) #[true,true,true,false,false,false,false,false,false,false,false] rfl rfl (one_of HT_.out (by kernel_rfl)) (by decide) (fun K hK => ?_)
  refine goes_ Tryd.func13 (by kernel_rfl) rfl #[.agg #[.string t273,.string t274,.string t275]] (by rfl) rfl rfl q82_ ?_
  with_reducible refine (spec_LineText.calls k t273 t274 t275 t278 _ A11.out).mono ?_
  rintro e w20 ⟨rfl,hb⟩
  refine ⟨_,rfl,?_⟩
  have n0_:=Aside0.mk (blk_below (g:=gb276) (o:=.cells #[.string t273,.string t274,.string t275] 29 (0,0)) q96_ hb)
  have n1_:=Aside0.mk (below_step q74_ hb)
  clear BK276
  clear HB
  have BK276:=n0_
  have HB:=n1_
  clear n0_ n1_
  (try clear hb)
  (try clear hb2)
  (try clear hk)
  (try clear hi)
  refine hK.out _ _ ⟨(blk_cell BK276.out 0).trans rfl,(blk_cell BK276.out 1).trans rfl,(blk_cell BK276.out 2).trans rfl⟩ (fun hHeld => ?_)
  clear hK K
  refine norm_ (a':=?_) ?_ ?_
  rotate_left
  ·show Act.put _ (some 24) _ = _
   simp only [Act.put,List.setIfInBounds_toArray,List.set_cons_zero,List.set_cons_succ,i64_w,i32_w]
   rfl
  refine pure_ (i:=3) (N:=some 25) (v:=?_) (a':=?_) #[true,true,true,true,false,false,false,false,false,false,false] rfl rfl (any_of HT_.out (by kernel_rfl)) (fun _ _ _ h => h) (Or.inl ⟨by rfl,?_⟩) ?_ ?_
  rotate_left
  ·intro w'
   go_simp
   with_reducible rfl
  rotate_left
  ·simp only [Act.put,List.setIfInBounds_toArray,List.set_cons_zero,List.set_cons_succ,i64_w,i32_w]
   rfl
  refine pure_ (i:=4) (N:=some 26) (v:=?_) (a':=?_) #[true,true,true,true,true,false,false,false,false,false,false] rfl rfl (any_of HT_.out (by kernel_rfl)) (fun _ _ _ h => h) (Or.inl ⟨by rfl,?_⟩) ?_ ?_
  rotate_left
  ·intro w'
   go_simp
   with_reducible rfl
  rotate_left
  ·simp only [Act.put,List.setIfInBounds_toArray,List.set_cons_zero,List.set_cons_succ,i64_w,i32_w]
   rfl
  refine pure_ (i:=5) (N:=some 27) (v:=undef) (a':=?_) #[true,true,true,true,true,true,false,false,false,false,false] rfl rfl (any_of HT_.out (by kernel_rfl)) (fun _ _ _ h => h) (Or.inr ⟨by rfl,rfl⟩) ?_ ?_
  rotate_left
  ·simp only [Act.put,List.setIfInBounds_toArray,List.set_cons_zero,List.set_cons_succ,i64_w,i32_w]
   rfl
  refine pure_ (i:=6) (N:=some 28) (v:=undef) (a':=?_) #[true,true,true,true,true,true,true,false,false,false,false] rfl rfl (any_of HT_.out (by kernel_rfl)) (fun _ _ _ h => h) (Or.inr ⟨by rfl,rfl⟩) ?_ ?_
  rotate_left
  ·simp only [Act.put,List.setIfInBounds_toArray,List.set_cons_zero,List.set_cons_succ,i64_w,i32_w]
   rfl
  refine pure_ (i:=7) (N:=some 29) (v:=undef) (a':=?_) #[true,true,true,true,true,true,true,true,false,false,false] rfl rfl (any_of HT_.out (by kernel_rfl)) (fun _ _ _ h => h) (Or.inr ⟨by rfl,rfl⟩) ?_ ?_
  rotate_left
  ·simp only [Act.put,List.setIfInBounds_toArray,List.set_cons_zero,List.set_cons_succ,i64_w,i32_w]
   rfl
  refine pure_ (i:=8) (N:=some 30) (v:=undef) (a':=?_) #[true,true,true,true,true,true,true,true,true,false,false] rfl rfl (any_of HT_.out (by kernel_rfl)) (fun _ _ _ h => h) (Or.inr ⟨by rfl,rfl⟩) ?_ ?_
  rotate_left
  ·simp only [Act.put,List.setIfInBounds_toArray,List.set_cons_zero,List.set_cons_succ,i64_w,i32_w]
   rfl
  refine pure_ (i:=9) (N:=some 31) (v:=undef) (a':=?_) #[true,true,true,true,true,true,true,true,true,true,false] rfl rfl (any_of HT_.out (by kernel_rfl)) (fun _ _ _ h => h) (Or.inr ⟨by rfl,rfl⟩) ?_ ?_
  rotate_left
  ·simp only [Act.put,List.setIfInBounds_toArray,List.set_cons_zero,List.set_cons_succ,i64_w,i32_w]
   rfl
  refine pure_ (i:=10) (N:=some 32) (v:=?_) (a':=?_) #[true,true,true,true,true,true,true,true,true,true,true] rfl rfl (any_of HT_.out (by kernel_rfl)) (fun _ _ _ h => h) (Or.inl ⟨by rfl,?_⟩) ?_ ?_
  rotate_left
  ·intro w'
   go_simp
   with_reducible rfl
  rotate_left
  ·simp only [Act.put,List.setIfInBounds_toArray,List.set_cons_zero,List.set_cons_succ,i64_w,i32_w]
   rfl
  refine done_ (done_of HT_.out (by kernel_rfl)) ?_
  try go_wp2
  go_meet
  case rel => exact ⟨_,(true),q101_,H',⟨q115_⟩,⟨q96_⟩,⟨q74_⟩⟩
 clear HC6
 try clear c1
 try clear p2
 try clear c3
 try clear c4
 try clear c6
 try clear p6
 try clear c11
 try clear c12
 try clear c12b0
 try clear c12b1
 try clear c13
 try clear c14
 try clear c15
 try clear hcz9_0 hcz9_1 hcz9_2
 try clear hfz9_0 hfz9_1 hfz9_2
 obtain ⟨kq,x32_5,rfl,HA,HJ5,BK276,HB⟩:=hcut
 cases kq with
 | zero => exact absurd HA.out (by simp [laws_FnLines.j0])
 | succ kj5 =>
  have H:=HA.out
  clear HA
  simp only [laws_FnLines.j0] at H
  by_cases c21:x32_5 = true
  ·subst c21
   rewrite [if_pos rfl] at H
   obtain rfl:=Option.some.inj H
   go_wp2
   go_ret
   exact ⟨q84_,q74_⟩
  replace c21:=Bool.eq_false_iff.mpr c21
  subst c21
  rewrite [if_neg (show ¬ (false = true) by decide)] at H
  replace H:=Option.bind_eq_some_iff.mp H
  obtain ⟨t281,A220,H⟩:=H
  have A22:=Aside0.mk A220
  clear A220
  have HC23:=Aside0.mk H
  clear H
  have hcz24_0:wc.cell? ⟨gb276,0,none⟩ = some (.string t273):=bz_ BK276 0
  have hcz24_1:wc.cell? ⟨gb276,1,none⟩ = some (.string t274):=bz_ BK276 1
  have hcz24_2:wc.cell? ⟨gb276,2,none⟩ = some (.string t275):=bz_ BK276 2
  have hfz24_0:=blk_frozen BK276.out 0
  have hfz24_1:=blk_frozen BK276.out 1
  have hfz24_2:=blk_frozen BK276.out 2
  go_upto_if 34 with (first | ((with_reducible refine gate_callee (f:=14) rfl ?_);refine goesL_ (some 34) rfl rfl Tryd.func14 (by kernel_rfl) rfl #[.agg #[.string t273,.string t274,.string t275]] rfl q82_ ?_;(with_reducible refine (impl_LineOk.calls kj5 t273 t274 t275 t281 _ A22.out).mono ?_);rintro e w25 ⟨rfl,hb⟩;refine ⟨_,rfl,?_⟩;have n0_:=Aside0.mk (blk_below (g:=gb276) (o:=.cells #[.string t273,.string t274,.string t275] 29 (0,0)) q96_ hb);have n1_:=Aside0.mk (below_step q74_ hb);clear BK276;clear HB;have BK276:=n0_;have HB:=n1_;clear n0_ n1_;(try clear hb)))
  (try simp only [Act.put,List.setIfInBounds_toArray,List.set_cons_zero,List.set_cons_succ])
  go_cut [] (fun wc => ∃ (kq:Nat),Aside0 (laws_FnLines.j2 kq l0 = some r) ∧ Aside0 (kq ≤ kj5) ∧ Aside0 (wc.heap[gb276]? = some (.cells #[.string t273,.string t274,.string t275] 29 (0,0))) ∧ Aside0 (Below w.heap.size w wc))
  case first =>
   have H:=HC23.out
   clear HC23
   by_cases c26:t281 = true
   ·subst c26
    rewrite [if_pos rfl] at H
    replace H:=Option.bind_eq_some_iff.mp H
    obtain ⟨⟨t282,t283,t284,t285⟩,A270,H⟩:=H
    try dsimp -simprocs -eta only at H
    have A27:=Aside0.mk A270
    clear A270
    by_cases c28:2 + t277.size ≤ 9223372036854775807
    rotate_left
    ·rw [if_neg c28] at H
     exact absurd H (by simp)
    rw [if_pos c28] at H
    have c28b0:=eq_true c28
    have c28b1:=decide_eq_true c28
    try have c28b2:(9223372036854775807 < 2 + t277.size) = False:=eq_false (Nat.not_lt.2 c28)
    by_cases c29:((⟨#[32,32]⟩:ByteArray) ++ t277).size + 7 ≤ 9223372036854775807
    rotate_left
    ·rw [if_neg c29] at H
     exact absurd H (by simp)
    rw [if_pos c29] at H
    have c29b0:=eq_true c29
    (try (have c29b0e:=c29b0;simp only [ByteArray.size_append,ByteArray.size_extract,Nat.min_self,Nat.sub_zero,show (⟨#[32,32]⟩:ByteArray).size = 2 from rfl] at c29b0e))
    have c29b1:=decide_eq_true c29
    (try (have c29b1e:=c29b1;simp only [ByteArray.size_append,ByteArray.size_extract,Nat.min_self,Nat.sub_zero,show (⟨#[32,32]⟩:ByteArray).size = 2 from rfl] at c29b1e))
    try have c29b2:(9223372036854775807 < ((⟨#[32,32]⟩:ByteArray) ++ t277).size + 7) = False:=eq_false (Nat.not_lt.2 c29)
    (try (have c29b2e:=c29b2;simp only [ByteArray.size_append,ByteArray.size_extract,Nat.min_self,Nat.sub_zero,show (⟨#[32,32]⟩:ByteArray).size = 2 from rfl] at c29b2e))
    replace H:=Option.bind_eq_some_iff.mp H
    obtain ⟨⟨t287,t288,t289,t290⟩,A300,H⟩:=H
    try dsimp -simprocs -eta only at H
    have A30:=Aside0.mk A300
    clear A300
    have HC31:=Aside0.mk H
    clear H
    go_upto_region 10 with (first | ((with_reducible refine gate_callee (f:=16) rfl ?_);refine goesL_ (some 37) rfl rfl Tryd.func16 (by kernel_rfl) rfl #[.string t277] rfl q82_ ?_;(with_reducible refine (impl_ReadLine.calls kj5 t277 t282 t283 t284 t285 _ A27.out).mono ?_);rintro e w32 ⟨rfl,hb⟩;refine ⟨_,rfl,?_⟩;have n0_:=Aside0.mk (blk_below (g:=gb276) (o:=.cells #[.string t273,.string t274,.string t275] 29 (0,0)) q96_ hb);have n1_:=Aside0.mk (below_step q74_ hb);clear BK276;clear HB;have BK276:=n0_;have HB:=n1_;clear n0_ n1_;(try clear hb)) | ((with_reducible refine gate_dst (N:=5) rfl ?_);refine box_event ?hg (N:=5) ?hd (cs:=#[.string (⟨#[]⟩:ByteArray),.string (⟨#[]⟩:ByteArray),.string (⟨#[]⟩:ByteArray)]) (t:=29) ?hr ?_;(case hd => rfl);(case hg => rfl);(case hr => exact q130_);intro gb286 hg w33 hbox hb;have n0_:=Aside0.mk (blk_below (g:=gb276) (o:=.cells #[.string t273,.string t274,.string t275] 29 (0,0)) q96_ hb);have n1_:=Aside0.mk (below_step q74_ hb);have n2_:=Aside0.mk (hbox);have n3_:=Aside0.mk ((q51_:w.heap.size ≤ gb286));have n4_:=Aside0.mk ((q51_:w.heap.size ≤ gb286));have n5_:=Aside0.mk ((q33_:gb276 ≠ gb286));have n6_:=Aside0.mk ((q34_:gb286 ≠ gb276));clear BK276;clear HB;have BK276:=n0_;have HB:=n1_;have BK286:=n2_;have GW286:=n3_;have GE286:=n4_;have NB276_286:=n5_;have NB286_276:=n6_;clear n0_ n1_ n2_ n3_ n4_ n5_ n6_;clear hb hbox hg;have hnb34:=NB286_276.out;have hnc34:=NB276_286.out;have hcz35_0:w33.cell? ⟨gb286,0,none⟩ = some (.string (⟨#[]⟩:ByteArray)):=(blk_cell BK286.out 0).trans rfl;have hcz35_1:w33.cell? ⟨gb286,1,none⟩ = some (.string (⟨#[]⟩:ByteArray)):=(blk_cell BK286.out 1).trans rfl;have hcz35_2:w33.cell? ⟨gb286,2,none⟩ = some (.string (⟨#[]⟩:ByteArray)):=(blk_cell BK286.out 2).trans rfl;have hfz35_0:=blk_frozen BK286.out 0;have hfz35_1:=blk_frozen BK286.out 1;have hfz35_2:=blk_frozen BK286.out 2) | ((with_reducible refine gate_callee (f:=16) rfl ?_);refine goesL_ (some 44) rfl rfl Tryd.func16 (by kernel_rfl) rfl #[.string (((⟨#[32,32]⟩:ByteArray) ++ t277) ++ (⟨#[32,59,32,120,58,32,121]⟩:ByteArray))] rfl q82_ ?_;(with_reducible refine (impl_ReadLine.calls kj5 (((⟨#[32,32]⟩:ByteArray) ++ t277) ++ (⟨#[32,59,32,120,58,32,121]⟩:ByteArray)) t287 t288 t289 t290 _ A30.out).mono ?_);rintro e w36 ⟨rfl,hb⟩;refine ⟨_,rfl,?_⟩;have n0_:=Aside0.mk (blk_below (g:=gb276) (o:=.cells #[.string t273,.string t274,.string t275] 29 (0,0)) (by (with_reducible repeat (first | refine blk_drewN ?_ _ | refine blk_drew ?_ | refine blk_alloc ?_ _));refine blk_far ?_ NB276_286.out _;(with_reducible repeat (first | refine blk_drewN ?_ _ | refine blk_drew ?_ | refine blk_alloc ?_ _));refine blk_far ?_ NB276_286.out _;(with_reducible repeat (first | refine blk_drewN ?_ _ | refine blk_drew ?_ | refine blk_alloc ?_ _));refine blk_far ?_ NB276_286.out _;(with_reducible repeat (first | refine blk_drewN ?_ _ | refine blk_drew ?_ | refine blk_alloc ?_ _));exact BK276.out) hb);have n1_:=Aside0.mk (blk_below (g:=gb286) (o:=.cells #[.string t282,.string t283,.string t284] 29 (0,0)) (by (with_reducible repeat (first | refine blk_drewN ?_ _ | refine blk_drew ?_ | refine blk_alloc ?_ _));refine blk_put (cs:=#[.string t282,.string t283,.string (⟨#[]⟩:ByteArray)]) ?_ 2 _ rfl;(with_reducible repeat (first | refine blk_drewN ?_ _ | refine blk_drew ?_ | refine blk_alloc ?_ _));refine blk_put (cs:=#[.string t282,.string (⟨#[]⟩:ByteArray),.string (⟨#[]⟩:ByteArray)]) ?_ 1 _ rfl;(with_reducible repeat (first | refine blk_drewN ?_ _ | refine blk_drew ?_ | refine blk_alloc ?_ _));refine blk_put (cs:=#[.string (⟨#[]⟩:ByteArray),.string (⟨#[]⟩:ByteArray),.string (⟨#[]⟩:ByteArray)]) ?_ 0 _ rfl;(with_reducible repeat (first | refine blk_drewN ?_ _ | refine blk_drew ?_ | refine blk_alloc ?_ _));exact BK286.out) hb);have n2_:=Aside0.mk (below_step q54_ hb);clear BK276;clear BK286;clear HB;have BK276:=n0_;have BK286:=n1_;have HB:=n2_;clear n0_ n1_ n2_;(try clear hb)) | ((with_reducible refine gate_dst (N:=7) rfl ?_);refine box_event ?hg (N:=7) ?hd (cs:=#[.string (⟨#[]⟩:ByteArray),.string (⟨#[]⟩:ByteArray),.string (⟨#[]⟩:ByteArray)]) (t:=29) ?hr ?_;(case hd => rfl);(case hg => rfl);(case hr => exact q130_);intro gb291 hg w37 hbox hb;have n0_:=Aside0.mk (blk_below (g:=gb276) (o:=.cells #[.string t273,.string t274,.string t275] 29 (0,0)) q96_ hb);have n1_:=Aside0.mk (blk_below (g:=gb286) (o:=.cells #[.string t282,.string t283,.string t284] 29 (0,0)) q97_ hb);have n2_:=Aside0.mk (below_step q54_ hb);have n3_:=Aside0.mk (hbox);have n4_:=Aside0.mk ((q41_:w.heap.size ≤ gb291));have n5_:=Aside0.mk ((q41_:w.heap.size ≤ gb291));have n6_:=Aside0.mk ((q33_:gb276 ≠ gb291));have n7_:=Aside0.mk ((q34_:gb291 ≠ gb276));have n8_:=Aside0.mk ((by rw [hg];exact Nat.ne_of_lt (blk_lt (g:=gb286) (o:=.cells #[.string t282,.string t283,.string t284] 29 (0,0)) q97_):gb286 ≠ gb291));have n9_:=Aside0.mk ((by rw [hg];exact Nat.ne_of_gt (blk_lt (g:=gb286) (o:=.cells #[.string t282,.string t283,.string t284] 29 (0,0)) q97_):gb291 ≠ gb286));clear BK276;clear BK286;clear HB;have BK276:=n0_;have BK286:=n1_;have HB:=n2_;have BK291:=n3_;have GW291:=n4_;have GE291:=n5_;have NB276_291:=n6_;have NB291_276:=n7_;have NB286_291:=n8_;have NB291_286:=n9_;clear n0_ n1_ n2_ n3_ n4_ n5_ n6_ n7_ n8_ n9_;clear hb hbox hg;have hnb38:=NB291_276.out;have hnc38:=NB276_291.out;have hnb39:=NB291_286.out;have hnc39:=NB286_291.out;have hcz40_0:w37.cell? ⟨gb291,0,none⟩ = some (.string (⟨#[]⟩:ByteArray)):=(blk_cell BK291.out 0).trans rfl;have hcz40_1:w37.cell? ⟨gb291,1,none⟩ = some (.string (⟨#[]⟩:ByteArray)):=(blk_cell BK291.out 1).trans rfl;have hcz40_2:w37.cell? ⟨gb291,2,none⟩ = some (.string (⟨#[]⟩:ByteArray)):=(blk_cell BK291.out 2).trans rfl;have hfz40_0:=blk_frozen BK291.out 0;have hfz40_1:=blk_frozen BK291.out 1;have hfz40_2:=blk_frozen BK291.out 2))
    (try simp only [Act.put,List.setIfInBounds_toArray,List.set_cons_zero,List.set_cons_succ])
    go_cut [62] (fun v62 wc => ∃ (kq:Nat) (x62_30:Bool),v62 = .bool x62_30 ∧ Aside0 (laws_FnLines.j1 kq l0 x62_30 = some r) ∧ Aside0 (kq ≤ kj5) ∧ Aside0 (wc.heap[gb276]? = some (.cells #[.string t273,.string t274,.string t275] 29 (0,0))) ∧ Aside0 (wc.heap[gb286]? = some (.cells #[.string t282,.string t283,.string t284] 29 (0,0))) ∧ Aside0 (wc.heap[gb291]? = some (.cells #[.string t287,.string t288,.string t289] 29 (0,0))) ∧ Aside0 (Below w.heap.size w wc))
    case first =>
     have H:=HC31.out
     clear HC31
     by_cases c41:t285 = true
     ·subst c41
      rewrite [if_pos rfl] at H
      by_cases c42:(!(t282.toList == t273.toList) || (!(t283.toList == t274.toList) || (!(t284.toList == t275.toList)))) = true
      ·rw [if_pos c42] at H
       have c42b0:(!(t282.toList == t273.toList) || (!(t283.toList == t274.toList) || (!(t284.toList == t275.toList)))) = true:=c42
       clear c42
       (first | rw [c42b0] | (simp only [i64_w,i32_w];rw [c42b0]) | rw [c42b9] | skip)
       have H':=Aside0.mk H
       clear H
       have hnb43:=NB286_276.out
       have hnc43:=NB276_286.out
       have hnb44:=NB286_291.out
       have hnc44:=NB291_286.out
       have hcz45_0:w37.cell? ⟨gb286,0,none⟩ = some (.string t282):=bz_ BK286 0
       have hcz45_1:w37.cell? ⟨gb286,1,none⟩ = some (.string t283):=bz_ BK286 1
       have hcz45_2:w37.cell? ⟨gb286,2,none⟩ = some (.string t284):=bz_ BK286 2
       have hfz45_0:=blk_frozen BK286.out 0
       have hfz45_1:=blk_frozen BK286.out 1
       have hfz45_2:=blk_frozen BK286.out 2
       have hnb46:=NB276_291.out
       have hnc46:=NB291_276.out
       have hcz47_0:w37.cell? ⟨gb276,0,none⟩ = some (.string t273):=bz_ BK276 0
       have hcz47_1:w37.cell? ⟨gb276,1,none⟩ = some (.string t274):=bz_ BK276 1
       have hcz47_2:w37.cell? ⟨gb276,2,none⟩ = some (.string t275):=bz_ BK276 2
       have hfz47_0:=blk_frozen BK276.out 0
       have hfz47_1:=blk_frozen BK276.out 1
       have hfz47_2:=blk_frozen BK276.out 2
       go_wp2
       go_meet
       case rel => exact ⟨_,(true),q101_,H',⟨q112_⟩,⟨q11_⟩,⟨q12_⟩,⟨q4_⟩,⟨q43_⟩⟩
      rw [if_neg c42] at H
      have c42b0:(!(t282.toList == t273.toList) || (!(t283.toList == t274.toList) || (!(t284.toList == t275.toList)))) = false:=by simpa using c42
      clear c42
      (first | rw [c42b0] | (simp only [i64_w,i32_w];rw [c42b0]) | rw [c42b9] | skip)
      by_cases c48:t290 = true
      ·subst c48
       rewrite [if_pos rfl] at H
       have H':=Aside0.mk H
       clear H
       have hnb49:=NB286_276.out
       have hnc49:=NB276_286.out
       have hnb50:=NB286_291.out
       have hnc50:=NB291_286.out
       have hcz51_0:w37.cell? ⟨gb286,0,none⟩ = some (.string t282):=bz_ BK286 0
       have hcz51_1:w37.cell? ⟨gb286,1,none⟩ = some (.string t283):=bz_ BK286 1
       have hcz51_2:w37.cell? ⟨gb286,2,none⟩ = some (.string t284):=bz_ BK286 2
       have hfz51_0:=blk_frozen BK286.out 0
       have hfz51_1:=blk_frozen BK286.out 1
       have hfz51_2:=blk_frozen BK286.out 2
       have hnb52:=NB276_291.out
       have hnc52:=NB291_276.out
       have hcz53_0:w37.cell? ⟨gb276,0,none⟩ = some (.string t273):=bz_ BK276 0
       have hcz53_1:w37.cell? ⟨gb276,1,none⟩ = some (.string t274):=bz_ BK276 1
       have hcz53_2:w37.cell? ⟨gb276,2,none⟩ = some (.string t275):=bz_ BK276 2
       have hfz53_0:=blk_frozen BK276.out 0
       have hfz53_1:=blk_frozen BK276.out 1
       have hfz53_2:=blk_frozen BK276.out 2
       have hcz54_0:w37.cell? ⟨gb291,0,none⟩ = some (.string (⟨#[]⟩:ByteArray)):=bz_ BK291 0
       have hcz54_1:w37.cell? ⟨gb291,1,none⟩ = some (.string (⟨#[]⟩:ByteArray)):=bz_ BK291 1
       have hcz54_2:w37.cell? ⟨gb291,2,none⟩ = some (.string (⟨#[]⟩:ByteArray)):=bz_ BK291 2
       have hfz54_0:=blk_frozen BK291.out 0
       have hfz54_1:=blk_frozen BK291.out 1
       have hfz54_2:=blk_frozen BK291.out 2
       go_wp2
       go_meet
       case rel => exact ⟨_,((!(t287.toList == t273.toList) || (!(t288.toList == t274.toList) || (!(t289.toList == t275.toList))))),q101_,H',⟨q112_⟩,⟨q11_⟩,⟨q12_⟩,⟨q4_⟩,⟨q43_⟩⟩
      replace c48:=Bool.eq_false_iff.mpr c48
      subst c48
      rewrite [if_neg (show ¬ (false = true) by decide)] at H
      have H':=Aside0.mk H
      clear H
      have hnb55:=NB286_276.out
      have hnc55:=NB276_286.out
      have hnb56:=NB286_291.out
      have hnc56:=NB291_286.out
      have hcz57_0:w37.cell? ⟨gb286,0,none⟩ = some (.string t282):=bz_ BK286 0
      have hcz57_1:w37.cell? ⟨gb286,1,none⟩ = some (.string t283):=bz_ BK286 1
      have hcz57_2:w37.cell? ⟨gb286,2,none⟩ = some (.string t284):=bz_ BK286 2
      have hfz57_0:=blk_frozen BK286.out 0
      have hfz57_1:=blk_frozen BK286.out 1
      have hfz57_2:=blk_frozen BK286.out 2
      have hnb58:=NB276_291.out
      have hnc58:=NB291_276.out
      have hcz59_0:w37.cell? ⟨gb276,0,none⟩ = some (.string t273):=bz_ BK276 0
      have hcz59_1:w37.cell? ⟨gb276,1,none⟩ = some (.string t274):=bz_ BK276 1
      have hcz59_2:w37.cell? ⟨gb276,2,none⟩ = some (.string t275):=bz_ BK276 2
      have hfz59_0:=blk_frozen BK276.out 0
      have hfz59_1:=blk_frozen BK276.out 1
      have hfz59_2:=blk_frozen BK276.out 2
      go_wp2
      go_meet
      case rel => exact ⟨_,(true),q101_,H',⟨q112_⟩,⟨q11_⟩,⟨q12_⟩,⟨q4_⟩,⟨q43_⟩⟩
     replace c41:=Bool.eq_false_iff.mpr c41
     subst c41
     rewrite [if_neg (show ¬ (false = true) by decide)] at H
     have H':=Aside0.mk H
     clear H
     go_wp2
     go_meet
     case rel => exact ⟨_,(true),q101_,H',⟨q112_⟩,⟨q11_⟩,⟨q12_⟩,⟨q4_⟩,⟨q43_⟩⟩
    clear HC31
    try clear c1
    try clear c2
    try clear p2 p2
    try clear c3
    try clear c4
    try clear c5
    try clear c6
    try clear p6 p6
    try clear c11
    try clear c12
    try clear c12b0
    try clear c12b1
    try clear c13
    try clear c14
    try clear c15
    try clear c16
    try clear c21
    try clear c26
    try clear c28
    try clear c28b0
    try clear c28b1
    try clear c28b2
    try clear c29
    try clear c29b0
    try clear c29b1
    try clear c29b2
    try clear c34
    try clear c38
    try clear c39
    try clear c41
    try clear c42
    try clear c42b0
    try clear c43
    try clear c44
    try clear c46
    try clear c48
    try clear c49
    try clear c50
    try clear c52
    try clear c55
    try clear c56
    try clear c58
    try clear hcz24_0 hcz24_1 hcz24_2
    try clear hcz35_0 hcz35_1 hcz35_2
    try clear hcz40_0 hcz40_1 hcz40_2
    try clear hcz45_0 hcz45_1 hcz45_2
    try clear hcz47_0 hcz47_1 hcz47_2
    try clear hcz51_0 hcz51_1 hcz51_2
    try clear hcz53_0 hcz53_1 hcz53_2
    try clear hcz54_0 hcz54_1 hcz54_2
    try clear hcz57_0 hcz57_1 hcz57_2
    try clear hcz59_0 hcz59_1 hcz59_2
    try clear hcz9_0 hcz9_1 hcz9_2
    try clear hfz24_0 hfz24_1 hfz24_2
    try clear hfz35_0 hfz35_1 hfz35_2
    try clear hfz40_0 hfz40_1 hfz40_2
    try clear hfz45_0 hfz45_1 hfz45_2
    try clear hfz47_0 hfz47_1 hfz47_2
    try clear hfz51_0 hfz51_1 hfz51_2
    try clear hfz53_0 hfz53_1 hfz53_2
    try clear hfz54_0 hfz54_1 hfz54_2
    try clear hfz57_0 hfz57_1 hfz57_2
    try clear hfz59_0 hfz59_1 hfz59_2
    try clear hfz9_0 hfz9_1 hfz9_2
    obtain ⟨kq,x62_30,rfl,HA,HJ30,BK276,BK286,BK291,HB⟩:=hcut
    cases kq with
    | zero => exact absurd HA.out (by simp [laws_FnLines.j1])
    | succ kj30 =>
     have H:=HA.out
     clear HA
     simp only [laws_FnLines.j1] at H
     by_cases c60:x62_30 = true
     ·subst c60
      rewrite [if_pos rfl] at H
      obtain rfl:=Option.some.inj H
      go_wp2
      go_ret
      exact ⟨q84_,q43_⟩
     replace c60:=Bool.eq_false_iff.mpr c60
     subst c60
     rewrite [if_neg (show ¬ (false = true) by decide)] at H
     have H':=Aside0.mk H
     clear H
     go_wp2
     go_meet
     case rel => exact ⟨_,H',⟨by have:=HJ5.out;have:=HJ30.out;first | omega | exact Nat.le_refl _⟩,⟨q96_⟩,⟨q43_⟩⟩
   replace c26:=Bool.eq_false_iff.mpr c26
   subst c26
   rewrite [if_neg (show ¬ (false = true) by decide)] at H
   have H':=Aside0.mk H
   clear H
   go_wp2
   go_meet
   case rel => exact ⟨_,H',⟨q112_⟩,⟨q96_⟩,⟨q74_⟩⟩
  clear HC23
  try clear c1
  try clear c2
  try clear p2 p2
  try clear c3
  try clear c4
  try clear c5
  try clear c6
  try clear p6 p6
  try clear c11
  try clear c12
  try clear c12b0
  try clear c12b1
  try clear c13
  try clear c14
  try clear c15
  try clear c16
  try clear c21
  try clear c26
  try clear c28
  try clear c28b0
  try clear c28b1
  try clear c28b2
  try clear c29
  try clear c29b0
  try clear c29b1
  try clear c29b2
  try clear c34
  try clear c38
  try clear c39
  try clear c41
  try clear c42
  try clear c42b0
  try clear c43
  try clear c44
  try clear c46
  try clear c48
  try clear c49
  try clear c50
  try clear c52
  try clear c55
  try clear c56
  try clear c58
  try clear c60
  try clear hcz24_0 hcz24_1 hcz24_2
  try clear hcz35_0 hcz35_1 hcz35_2
  try clear hcz40_0 hcz40_1 hcz40_2
  try clear hcz45_0 hcz45_1 hcz45_2
  try clear hcz47_0 hcz47_1 hcz47_2
  try clear hcz51_0 hcz51_1 hcz51_2
  try clear hcz53_0 hcz53_1 hcz53_2
  try clear hcz54_0 hcz54_1 hcz54_2
  try clear hcz57_0 hcz57_1 hcz57_2
  try clear hcz59_0 hcz59_1 hcz59_2
  try clear hcz9_0 hcz9_1 hcz9_2
  try clear hfz24_0 hfz24_1 hfz24_2
  try clear hfz35_0 hfz35_1 hfz35_2
  try clear hfz40_0 hfz40_1 hfz40_2
  try clear hfz45_0 hfz45_1 hfz45_2
  try clear hfz47_0 hfz47_1 hfz47_2
  try clear hfz51_0 hfz51_1 hfz51_2
  try clear hfz53_0 hfz53_1 hfz53_2
  try clear hfz54_0 hfz54_1 hfz54_2
  try clear hfz57_0 hfz57_1 hfz57_2
  try clear hfz59_0 hfz59_1 hfz59_2
  try clear hfz9_0 hfz9_1 hfz9_2
  obtain ⟨kq,HA,HJ22,BK276,HB⟩:=hcut
  cases kq with
  | zero => exact absurd HA.out (by simp [laws_FnLines.j2])
  | succ kj22 =>
   have H:=HA.out
   clear HA
   simp only [laws_FnLines.j2] at H
   replace H:=Option.bind_eq_some_iff.mp H
   obtain ⟨t292,A610,H⟩:=H
   have A61:=Aside0.mk A610
   clear A610
   replace H:=Option.bind_eq_some_iff.mp H
   obtain ⟨⟨t293,t294,t295,t296⟩,A620,H⟩:=H
   try dsimp -simprocs -eta only at H
   have A62:=Aside0.mk A620
   clear A620
   replace H:=Option.bind_eq_some_iff.mp H
   obtain ⟨⟨t298,t299,t300,t301⟩,A630,H⟩:=H
   try dsimp -simprocs -eta only at H
   have A63:=Aside0.mk A630
   clear A630
   have HC64:=Aside0.mk H
   clear H
   go_upto_region 15 with (first | ((with_reducible refine gate_callee (f:=17) rfl ?_);refine goesL_ (some 64) rfl rfl Tryd.func17 (by kernel_rfl) rfl #[.slice A0 l0.length c0] rfl q82_ ?_;(with_reducible refine (spec_DrawReadLine.calls kj22 _ _ l0 t292 _ ?side1 ?side2 A61.out).mono ?_);(case side1 => exact q125_);(case side2 => exact HC0.out);rintro e w65 ⟨rfl,hb⟩;refine ⟨_,rfl,?_⟩;have n0_:=Aside0.mk (blk_below (g:=gb276) (o:=.cells #[.string t273,.string t274,.string t275] 29 (0,0)) q96_ hb);have n1_:=Aside0.mk (below_step q74_ hb);clear BK276;clear HB;have BK276:=n0_;have HB:=n1_;clear n0_ n1_;(try clear hb)) | ((with_reducible refine gate_callee (f:=16) rfl ?_);refine goesL_ (some 67) rfl rfl Tryd.func16 (by kernel_rfl) rfl #[.string t292] rfl q82_ ?_;(with_reducible refine (impl_ReadLine.calls kj22 t292 t293 t294 t295 t296 _ A62.out).mono ?_);rintro e w66 ⟨rfl,hb⟩;refine ⟨_,rfl,?_⟩;have n0_:=Aside0.mk (blk_below (g:=gb276) (o:=.cells #[.string t273,.string t274,.string t275] 29 (0,0)) q96_ hb);have n1_:=Aside0.mk (below_step q74_ hb);clear BK276;clear HB;have BK276:=n0_;have HB:=n1_;clear n0_ n1_;(try clear hb)) | ((with_reducible refine gate_dst (N:=10) rfl ?_);refine box_event ?hg (N:=10) ?hd (cs:=#[.string (⟨#[]⟩:ByteArray),.string (⟨#[]⟩:ByteArray),.string (⟨#[]⟩:ByteArray)]) (t:=29) ?hr ?_;(case hd => rfl);(case hg => rfl);(case hr => exact q130_);intro gb297 hg w67 hbox hb;have n0_:=Aside0.mk (blk_below (g:=gb276) (o:=.cells #[.string t273,.string t274,.string t275] 29 (0,0)) q96_ hb);have n1_:=Aside0.mk (below_step q74_ hb);have n2_:=Aside0.mk (hbox);have n3_:=Aside0.mk ((q51_:w.heap.size ≤ gb297));have n4_:=Aside0.mk ((q51_:w.heap.size ≤ gb297));have n5_:=Aside0.mk ((q33_:gb276 ≠ gb297));have n6_:=Aside0.mk ((q34_:gb297 ≠ gb276));clear BK276;clear HB;have BK276:=n0_;have HB:=n1_;have BK297:=n2_;have GW297:=n3_;have GE297:=n4_;have NB276_297:=n5_;have NB297_276:=n6_;clear n0_ n1_ n2_ n3_ n4_ n5_ n6_;clear hb hbox hg;have hnb68:=NB297_276.out;have hnc68:=NB276_297.out;have hcz69_0:w67.cell? ⟨gb297,0,none⟩ = some (.string (⟨#[]⟩:ByteArray)):=(blk_cell BK297.out 0).trans rfl;have hcz69_1:w67.cell? ⟨gb297,1,none⟩ = some (.string (⟨#[]⟩:ByteArray)):=(blk_cell BK297.out 1).trans rfl;have hcz69_2:w67.cell? ⟨gb297,2,none⟩ = some (.string (⟨#[]⟩:ByteArray)):=(blk_cell BK297.out 2).trans rfl;have hfz69_0:=blk_frozen BK297.out 0;have hfz69_1:=blk_frozen BK297.out 1;have hfz69_2:=blk_frozen BK297.out 2) | ((with_reducible refine gate_callee (f:=18) rfl ?_);refine goesL_ (some 72) rfl rfl Tryd.func18 (by kernel_rfl) rfl #[.string t292] rfl q82_ ?_;(with_reducible refine (spec_ReadLine.calls kj22 t292 t298 t299 t300 t301 _ A63.out).mono ?_);rintro e w70 ⟨rfl,hb⟩;refine ⟨_,rfl,?_⟩;have n0_:=Aside0.mk (blk_below (g:=gb276) (o:=.cells #[.string t273,.string t274,.string t275] 29 (0,0)) (by (with_reducible repeat (first | refine blk_drewN ?_ _ | refine blk_drew ?_ | refine blk_alloc ?_ _));refine blk_far ?_ NB276_297.out _;(with_reducible repeat (first | refine blk_drewN ?_ _ | refine blk_drew ?_ | refine blk_alloc ?_ _));refine blk_far ?_ NB276_297.out _;(with_reducible repeat (first | refine blk_drewN ?_ _ | refine blk_drew ?_ | refine blk_alloc ?_ _));refine blk_far ?_ NB276_297.out _;(with_reducible repeat (first | refine blk_drewN ?_ _ | refine blk_drew ?_ | refine blk_alloc ?_ _));exact BK276.out) hb);have n1_:=Aside0.mk (blk_below (g:=gb297) (o:=.cells #[.string t293,.string t294,.string t295] 29 (0,0)) (by (with_reducible repeat (first | refine blk_drewN ?_ _ | refine blk_drew ?_ | refine blk_alloc ?_ _));refine blk_put (cs:=#[.string t293,.string t294,.string (⟨#[]⟩:ByteArray)]) ?_ 2 _ rfl;(with_reducible repeat (first | refine blk_drewN ?_ _ | refine blk_drew ?_ | refine blk_alloc ?_ _));refine blk_put (cs:=#[.string t293,.string (⟨#[]⟩:ByteArray),.string (⟨#[]⟩:ByteArray)]) ?_ 1 _ rfl;(with_reducible repeat (first | refine blk_drewN ?_ _ | refine blk_drew ?_ | refine blk_alloc ?_ _));refine blk_put (cs:=#[.string (⟨#[]⟩:ByteArray),.string (⟨#[]⟩:ByteArray),.string (⟨#[]⟩:ByteArray)]) ?_ 0 _ rfl;(with_reducible repeat (first | refine blk_drewN ?_ _ | refine blk_drew ?_ | refine blk_alloc ?_ _));exact BK297.out) hb);have n2_:=Aside0.mk (below_step q55_ hb);clear BK276;clear BK297;clear HB;have BK276:=n0_;have BK297:=n1_;have HB:=n2_;clear n0_ n1_ n2_;(try clear hb)) | ((with_reducible refine gate_dst (N:=12) rfl ?_);refine box_event ?hg (N:=12) ?hd (cs:=#[.string (⟨#[]⟩:ByteArray),.string (⟨#[]⟩:ByteArray),.string (⟨#[]⟩:ByteArray)]) (t:=29) ?hr ?_;(case hd => rfl);(case hg => rfl);(case hr => exact q130_);intro gb302 hg w71 hbox hb;have n0_:=Aside0.mk (blk_below (g:=gb276) (o:=.cells #[.string t273,.string t274,.string t275] 29 (0,0)) q96_ hb);have n1_:=Aside0.mk (blk_below (g:=gb297) (o:=.cells #[.string t293,.string t294,.string t295] 29 (0,0)) q98_ hb);have n2_:=Aside0.mk (below_step q55_ hb);have n3_:=Aside0.mk (hbox);have n4_:=Aside0.mk ((q42_:w.heap.size ≤ gb302));have n5_:=Aside0.mk ((q42_:w.heap.size ≤ gb302));have n6_:=Aside0.mk ((q33_:gb276 ≠ gb302));have n7_:=Aside0.mk ((q34_:gb302 ≠ gb276));have n8_:=Aside0.mk ((q35_:gb297 ≠ gb302));have n9_:=Aside0.mk ((q36_:gb302 ≠ gb297));clear BK276;clear BK297;clear HB;have BK276:=n0_;have BK297:=n1_;have HB:=n2_;have BK302:=n3_;have GW302:=n4_;have GE302:=n5_;have NB276_302:=n6_;have NB302_276:=n7_;have NB297_302:=n8_;have NB302_297:=n9_;clear n0_ n1_ n2_ n3_ n4_ n5_ n6_ n7_ n8_ n9_;clear hb hbox hg;have hnb72:=NB302_276.out;have hnc72:=NB276_302.out;have hnb73:=NB302_297.out;have hnc73:=NB297_302.out;have hcz74_0:w71.cell? ⟨gb302,0,none⟩ = some (.string (⟨#[]⟩:ByteArray)):=(blk_cell BK302.out 0).trans rfl;have hcz74_1:w71.cell? ⟨gb302,1,none⟩ = some (.string (⟨#[]⟩:ByteArray)):=(blk_cell BK302.out 1).trans rfl;have hcz74_2:w71.cell? ⟨gb302,2,none⟩ = some (.string (⟨#[]⟩:ByteArray)):=(blk_cell BK302.out 2).trans rfl;have hfz74_0:=blk_frozen BK302.out 0;have hfz74_1:=blk_frozen BK302.out 1;have hfz74_2:=blk_frozen BK302.out 2))
   (try simp only [Act.put,List.setIfInBounds_toArray,List.set_cons_zero,List.set_cons_succ])
   go_cut [86] (fun v86 wc => ∃ (kq:Nat) (x86_63:Bool),v86 = .bool x86_63 ∧ Aside0 (laws_FnLines.j3 kq t296 t301 x86_63 t293 t294 t295 t298 t299 t300 = some r) ∧ Aside0 (kq ≤ kj22) ∧ Aside0 (wc.heap[gb276]? = some (.cells #[.string t273,.string t274,.string t275] 29 (0,0))) ∧ Aside0 (wc.heap[gb297]? = some (.cells #[.string t293,.string t294,.string t295] 29 (0,0))) ∧ Aside0 (wc.heap[gb302]? = some (.cells #[.string t298,.string t299,.string t300] 29 (0,0))) ∧ Aside0 (Below w.heap.size w wc))
   case first =>
    have H:=HC64.out
    clear HC64
    by_cases c75:(!(t293.toList == t298.toList) || (!(t294.toList == t299.toList) || (!(t295.toList == t300.toList)))) = true
    ·rw [if_pos c75] at H
     have c75b0:(!(t293.toList == t298.toList) || (!(t294.toList == t299.toList) || (!(t295.toList == t300.toList)))) = true:=c75
     clear c75
     (first | rw [c75b0] | (simp only [i64_w,i32_w];rw [c75b0]) | rw [c75b9] | skip)
     have H':=Aside0.mk H
     clear H
     have hnb76:=NB297_276.out
     have hnc76:=NB276_297.out
     have hnb77:=NB297_302.out
     have hnc77:=NB302_297.out
     have hcz78_0:w71.cell? ⟨gb297,0,none⟩ = some (.string t293):=bz_ BK297 0
     have hcz78_1:w71.cell? ⟨gb297,1,none⟩ = some (.string t294):=bz_ BK297 1
     have hcz78_2:w71.cell? ⟨gb297,2,none⟩ = some (.string t295):=bz_ BK297 2
     have hfz78_0:=blk_frozen BK297.out 0
     have hfz78_1:=blk_frozen BK297.out 1
     have hfz78_2:=blk_frozen BK297.out 2
     have hnb79:=NB302_276.out
     have hnc79:=NB276_302.out
     have hcz80_0:w71.cell? ⟨gb302,0,none⟩ = some (.string (⟨#[]⟩:ByteArray)):=bz_ BK302 0
     have hcz80_1:w71.cell? ⟨gb302,1,none⟩ = some (.string (⟨#[]⟩:ByteArray)):=bz_ BK302 1
     have hcz80_2:w71.cell? ⟨gb302,2,none⟩ = some (.string (⟨#[]⟩:ByteArray)):=bz_ BK302 2
     have hfz80_0:=blk_frozen BK302.out 0
     have hfz80_1:=blk_frozen BK302.out 1
     have hfz80_2:=blk_frozen BK302.out 2
     go_wp2
     go_meet
     case rel => exact ⟨_,(true),q101_,H',⟨q105_⟩,⟨q13_⟩,⟨q14_⟩,⟨q5_⟩,⟨q44_⟩⟩
    rw [if_neg c75] at H
    have c75b0:(!(t293.toList == t298.toList) || (!(t294.toList == t299.toList) || (!(t295.toList == t300.toList)))) = false:=by simpa using c75
    clear c75
    (first | rw [c75b0] | (simp only [i64_w,i32_w];rw [c75b0]) | rw [c75b9] | skip)
    by_cases c81:(t296 != t301) = true
    ·rw [if_pos c81] at H
     have c81b0:(t296 != t301) = true:=c81
     (try (have c81b1:decide (t296 = t301) = false:=by simpa using c81))
     (try (have c81b2:(t296 == t301) = false:=by simpa using c81))
     (try (have c81b3:¬ (t296 = t301):=by simpa using c81))
     clear c81
     have H':=Aside0.mk H
     clear H
     have hnb82:=NB297_276.out
     have hnc82:=NB276_297.out
     have hnb83:=NB297_302.out
     have hnc83:=NB302_297.out
     have hcz84_0:w71.cell? ⟨gb297,0,none⟩ = some (.string t293):=bz_ BK297 0
     have hcz84_1:w71.cell? ⟨gb297,1,none⟩ = some (.string t294):=bz_ BK297 1
     have hcz84_2:w71.cell? ⟨gb297,2,none⟩ = some (.string t295):=bz_ BK297 2
     have hfz84_0:=blk_frozen BK297.out 0
     have hfz84_1:=blk_frozen BK297.out 1
     have hfz84_2:=blk_frozen BK297.out 2
     have hnb85:=NB302_276.out
     have hnc85:=NB276_302.out
     have hcz86_0:w71.cell? ⟨gb302,0,none⟩ = some (.string (⟨#[]⟩:ByteArray)):=bz_ BK302 0
     have hcz86_1:w71.cell? ⟨gb302,1,none⟩ = some (.string (⟨#[]⟩:ByteArray)):=bz_ BK302 1
     have hcz86_2:w71.cell? ⟨gb302,2,none⟩ = some (.string (⟨#[]⟩:ByteArray)):=bz_ BK302 2
     have hfz86_0:=blk_frozen BK302.out 0
     have hfz86_1:=blk_frozen BK302.out 1
     have hfz86_2:=blk_frozen BK302.out 2
     go_wp2
     go_meet
     case rel => exact ⟨_,(true),q101_,H',⟨q105_⟩,⟨q13_⟩,⟨q14_⟩,⟨q5_⟩,⟨q44_⟩⟩
    rw [if_neg c81] at H
    have c81b0:(t296 != t301) = false:=by simpa using c81
    (try (have c81b1:decide (t296 = t301) = true:=by simpa using c81))
    (try (have c81b2:(t296 == t301) = true:=by simpa using c81))
    clear c81
    have H':=Aside0.mk H
    clear H
    have hnb87:=NB297_276.out
    have hnc87:=NB276_297.out
    have hnb88:=NB297_302.out
    have hnc88:=NB302_297.out
    have hcz89_0:w71.cell? ⟨gb297,0,none⟩ = some (.string t293):=bz_ BK297 0
    have hcz89_1:w71.cell? ⟨gb297,1,none⟩ = some (.string t294):=bz_ BK297 1
    have hcz89_2:w71.cell? ⟨gb297,2,none⟩ = some (.string t295):=bz_ BK297 2
    have hfz89_0:=blk_frozen BK297.out 0
    have hfz89_1:=blk_frozen BK297.out 1
    have hfz89_2:=blk_frozen BK297.out 2
    have hnb90:=NB302_276.out
    have hnc90:=NB276_302.out
    have hcz91_0:w71.cell? ⟨gb302,0,none⟩ = some (.string (⟨#[]⟩:ByteArray)):=bz_ BK302 0
    have hcz91_1:w71.cell? ⟨gb302,1,none⟩ = some (.string (⟨#[]⟩:ByteArray)):=bz_ BK302 1
    have hcz91_2:w71.cell? ⟨gb302,2,none⟩ = some (.string (⟨#[]⟩:ByteArray)):=bz_ BK302 2
    have hfz91_0:=blk_frozen BK302.out 0
    have hfz91_1:=blk_frozen BK302.out 1
    have hfz91_2:=blk_frozen BK302.out 2
    go_wp2
    go_meet
    case rel => exact ⟨_,(!t296),q101_,H',⟨q105_⟩,⟨q13_⟩,⟨q14_⟩,⟨q5_⟩,⟨q44_⟩⟩
   clear HC64
   try clear c1
   try clear c2
   try clear p2 p2
   try clear c3
   try clear c4
   try clear c5
   try clear c6
   try clear p6 p6
   try clear c7
   try clear c8
   try clear c9
   try clear c11
   try clear c12
   try clear c12b0
   try clear c12b1
   try clear c13
   try clear c14
   try clear c15
   try clear c16
   try clear c17
   try clear c18
   try clear c21
   try clear c26
   try clear c28
   try clear c28b0
   try clear c28b1
   try clear c28b2
   try clear c29
   try clear c29b0
   try clear c29b1
   try clear c29b2
   try clear c34
   try clear c38
   try clear c39
   try clear c41
   try clear c42
   try clear c42b0
   try clear c43
   try clear c44
   try clear c46
   try clear c48
   try clear c49
   try clear c50
   try clear c52
   try clear c55
   try clear c56
   try clear c58
   try clear c60
   try clear p64
   try clear c68
   try clear c72
   try clear c73
   try clear c75
   try clear c75b0
   try clear c76
   try clear c77
   try clear c79
   try clear c81
   try clear c81b0
   try clear c81b1
   try clear c81b2
   try clear c82
   try clear c83
   try clear c85
   try clear c87
   try clear c88
   try clear c90
   try clear hcz24_0 hcz24_1 hcz24_2
   try clear hcz35_0 hcz35_1 hcz35_2
   try clear hcz40_0 hcz40_1 hcz40_2
   try clear hcz45_0 hcz45_1 hcz45_2
   try clear hcz47_0 hcz47_1 hcz47_2
   try clear hcz51_0 hcz51_1 hcz51_2
   try clear hcz53_0 hcz53_1 hcz53_2
   try clear hcz54_0 hcz54_1 hcz54_2
   try clear hcz57_0 hcz57_1 hcz57_2
   try clear hcz59_0 hcz59_1 hcz59_2
   try clear hcz69_0 hcz69_1 hcz69_2
   try clear hcz74_0 hcz74_1 hcz74_2
   try clear hcz78_0 hcz78_1 hcz78_2
   try clear hcz80_0 hcz80_1 hcz80_2
   try clear hcz84_0 hcz84_1 hcz84_2
   try clear hcz86_0 hcz86_1 hcz86_2
   try clear hcz89_0 hcz89_1 hcz89_2
   try clear hcz91_0 hcz91_1 hcz91_2
   try clear hcz9_0 hcz9_1 hcz9_2
   try clear hfz24_0 hfz24_1 hfz24_2
   try clear hfz35_0 hfz35_1 hfz35_2
   try clear hfz40_0 hfz40_1 hfz40_2
   try clear hfz45_0 hfz45_1 hfz45_2
   try clear hfz47_0 hfz47_1 hfz47_2
   try clear hfz51_0 hfz51_1 hfz51_2
   try clear hfz53_0 hfz53_1 hfz53_2
   try clear hfz54_0 hfz54_1 hfz54_2
   try clear hfz57_0 hfz57_1 hfz57_2
   try clear hfz59_0 hfz59_1 hfz59_2
   try clear hfz69_0 hfz69_1 hfz69_2
   try clear hfz74_0 hfz74_1 hfz74_2
   try clear hfz78_0 hfz78_1 hfz78_2
   try clear hfz80_0 hfz80_1 hfz80_2
   try clear hfz84_0 hfz84_1 hfz84_2
   try clear hfz86_0 hfz86_1 hfz86_2
   try clear hfz89_0 hfz89_1 hfz89_2
   try clear hfz91_0 hfz91_1 hfz91_2
   try clear hfz9_0 hfz9_1 hfz9_2
   obtain ⟨kq,x86_63,rfl,HA,HJ63,BK276,BK297,BK302,HB⟩:=hcut
   cases kq with
   | zero => exact absurd HA.out (by simp [laws_FnLines.j3])
   | succ kj63 =>
    have H:=HA.out
    clear HA
    simp only [laws_FnLines.j3] at H
    by_cases c92:x86_63 = true
    ·subst c92
     rewrite [if_pos rfl] at H
     by_cases c93:(t293.toList == t298.toList && (t294.toList == t299.toList && (t295.toList == t300.toList))) = true
     ·rw [if_pos c93] at H
      have c93b0:(t293.toList == t298.toList && (t294.toList == t299.toList && (t295.toList == t300.toList))) = true:=c93
      (try (have c93b1:decide (t293.toList = t298.toList && (t294.toList == t299.toList && (t295.toList == t300.toList))) = true:=by simpa using c93))
      (try (have c93b2:(t293.toList == t298.toList && (t294.toList == t299.toList && (t295.toList == t300.toList))) = true:=by simpa using c93))
      clear c93
      obtain rfl:=Option.some.inj H
      have hnb94:=NB297_276.out
      have hnc94:=NB276_297.out
      have hnb95:=NB297_302.out
      have hnc95:=NB302_297.out
      have hcz96_0:wc.cell? ⟨gb297,0,none⟩ = some (.string t293):=bz_ BK297 0
      have hcz96_1:wc.cell? ⟨gb297,1,none⟩ = some (.string t294):=bz_ BK297 1
      have hcz96_2:wc.cell? ⟨gb297,2,none⟩ = some (.string t295):=bz_ BK297 2
      have hfz96_0:=blk_frozen BK297.out 0
      have hfz96_1:=blk_frozen BK297.out 1
      have hfz96_2:=blk_frozen BK297.out 2
      have hnb97:=NB302_276.out
      have hnc97:=NB276_302.out
      have hcz98_0:wc.cell? ⟨gb302,0,none⟩ = some (.string t298):=bz_ BK302 0
      have hcz98_1:wc.cell? ⟨gb302,1,none⟩ = some (.string t299):=bz_ BK302 1
      have hcz98_2:wc.cell? ⟨gb302,2,none⟩ = some (.string t300):=bz_ BK302 2
      have hfz98_0:=blk_frozen BK302.out 0
      have hfz98_1:=blk_frozen BK302.out 1
      have hfz98_2:=blk_frozen BK302.out 2
      go_wp2
      go_ret
      exact ⟨q84_,q44_⟩
     rw [if_neg c93] at H
     have c93b0:(t293.toList == t298.toList && (t294.toList == t299.toList && (t295.toList == t300.toList))) = false:=by simpa using c93
     (try (have c93b1:decide (t293.toList = t298.toList && (t294.toList == t299.toList && (t295.toList == t300.toList))) = false:=by simpa using c93))
     (try (have c93b2:(t293.toList == t298.toList && (t294.toList == t299.toList && (t295.toList == t300.toList))) = false:=by simpa using c93))
     (try (have c93b3:¬ (t293.toList = t298.toList && (t294.toList == t299.toList && (t295.toList == t300.toList))):=by simpa using c93))
     clear c93
     obtain rfl:=Option.some.inj H
     have hnb99:=NB297_276.out
     have hnc99:=NB276_297.out
     have hnb100:=NB297_302.out
     have hnc100:=NB302_297.out
     have hcz101_0:wc.cell? ⟨gb297,0,none⟩ = some (.string t293):=bz_ BK297 0
     have hcz101_1:wc.cell? ⟨gb297,1,none⟩ = some (.string t294):=bz_ BK297 1
     have hcz101_2:wc.cell? ⟨gb297,2,none⟩ = some (.string t295):=bz_ BK297 2
     have hfz101_0:=blk_frozen BK297.out 0
     have hfz101_1:=blk_frozen BK297.out 1
     have hfz101_2:=blk_frozen BK297.out 2
     have hnb102:=NB302_276.out
     have hnc102:=NB276_302.out
     have hcz103_0:wc.cell? ⟨gb302,0,none⟩ = some (.string t298):=bz_ BK302 0
     have hcz103_1:wc.cell? ⟨gb302,1,none⟩ = some (.string t299):=bz_ BK302 1
     have hcz103_2:wc.cell? ⟨gb302,2,none⟩ = some (.string t300):=bz_ BK302 2
     have hfz103_0:=blk_frozen BK302.out 0
     have hfz103_1:=blk_frozen BK302.out 1
     have hfz103_2:=blk_frozen BK302.out 2
     go_wp2
     go_ret
     exact ⟨q84_,q44_⟩
    replace c92:=Bool.eq_false_iff.mpr c92
    subst c92
    rewrite [if_neg (show ¬ (false = true) by decide)] at H
    replace H:=Option.bind_eq_some_iff.mp H
    obtain ⟨t303,A1040,H⟩:=H
    have A104:=Aside0.mk A1040
    clear A1040
    replace H:=Option.bind_eq_some_iff.mp H
    obtain ⟨⟨t304,t305,t306,t307⟩,A1050,H⟩:=H
    try dsimp -simprocs -eta only at H
    have A105:=Aside0.mk A1050
    clear A1050
    replace H:=Option.bind_eq_some_iff.mp H
    obtain ⟨t309,A1060,H⟩:=H
    have A106:=Aside0.mk A1060
    clear A1060
    by_cases c107:t309 = true
    ·subst c107
     rewrite [if_pos rfl] at H
     by_cases c108:t307 = true
     ·subst c108
      rewrite [if_pos rfl] at H
      obtain rfl:=Option.some.inj H
      have hnb109:=NB297_276.out
      have hnc109:=NB276_297.out
      have hnb110:=NB297_302.out
      have hnc110:=NB302_297.out
      have hcz111_0:wc.cell? ⟨gb297,0,none⟩ = some (.string t293):=bz_ BK297 0
      have hcz111_1:wc.cell? ⟨gb297,1,none⟩ = some (.string t294):=bz_ BK297 1
      have hcz111_2:wc.cell? ⟨gb297,2,none⟩ = some (.string t295):=bz_ BK297 2
      have hfz111_0:=blk_frozen BK297.out 0
      have hfz111_1:=blk_frozen BK297.out 1
      have hfz111_2:=blk_frozen BK297.out 2
      go_wp2_with (first | ((with_reducible refine gate_callee (f:=12) rfl ?_);refine goesL_ (some 97) rfl rfl Tryd.func12 (by kernel_rfl) rfl #[.agg #[.string t293,.string t294,.string t295]] rfl q82_ ?_;(with_reducible refine (impl_LineText.calls kj63 t293 t294 t295 t303 _ A104.out).mono ?_);rintro e w112 ⟨rfl,hb⟩;refine ⟨_,rfl,?_⟩;have n0_:=Aside0.mk (blk_below (g:=gb276) (o:=.cells #[.string t273,.string t274,.string t275] 29 (0,0)) q96_ hb);have n1_:=Aside0.mk (blk_below (g:=gb297) (o:=.cells #[.string t293,.string t294,.string t295] 29 (0,0)) q98_ hb);have n2_:=Aside0.mk (blk_below (g:=gb302) (o:=.cells #[.string t298,.string t299,.string t300] 29 (0,0)) q99_ hb);have n3_:=Aside0.mk (below_step q44_ hb);clear BK276;clear BK297;clear BK302;clear HB;have BK276:=n0_;have BK297:=n1_;have BK302:=n2_;have HB:=n3_;clear n0_ n1_ n2_ n3_;(try clear hb)) | ((with_reducible refine gate_callee (f:=16) rfl ?_);refine goesL_ (some 98) rfl rfl Tryd.func16 (by kernel_rfl) rfl #[.string t303] rfl q82_ ?_;(with_reducible refine (impl_ReadLine.calls kj63 t303 t304 t305 t306 true _ A105.out).mono ?_);rintro e w113 ⟨rfl,hb⟩;refine ⟨_,rfl,?_⟩;have n0_:=Aside0.mk (blk_below (g:=gb276) (o:=.cells #[.string t273,.string t274,.string t275] 29 (0,0)) q96_ hb);have n1_:=Aside0.mk (blk_below (g:=gb297) (o:=.cells #[.string t293,.string t294,.string t295] 29 (0,0)) q98_ hb);have n2_:=Aside0.mk (blk_below (g:=gb302) (o:=.cells #[.string t298,.string t299,.string t300] 29 (0,0)) q99_ hb);have n3_:=Aside0.mk (below_step q44_ hb);clear BK276;clear BK297;clear BK302;clear HB;have BK276:=n0_;have BK297:=n1_;have BK302:=n2_;have HB:=n3_;clear n0_ n1_ n2_ n3_;(try clear hb)) | ((with_reducible refine gate_dst (N:=14) rfl ?_);refine box_event ?hg (N:=14) ?hd (cs:=#[.string (⟨#[]⟩:ByteArray),.string (⟨#[]⟩:ByteArray),.string (⟨#[]⟩:ByteArray)]) (t:=29) ?hr ?_;(case hd => rfl);(case hg => rfl);(case hr => exact q130_);intro gb308 hg w114 hbox hb;have n0_:=Aside0.mk (blk_below (g:=gb276) (o:=.cells #[.string t273,.string t274,.string t275] 29 (0,0)) q96_ hb);have n1_:=Aside0.mk (blk_below (g:=gb297) (o:=.cells #[.string t293,.string t294,.string t295] 29 (0,0)) q98_ hb);have n2_:=Aside0.mk (blk_below (g:=gb302) (o:=.cells #[.string t298,.string t299,.string t300] 29 (0,0)) q99_ hb);have n3_:=Aside0.mk (below_step q44_ hb);have n4_:=Aside0.mk (hbox);have n5_:=Aside0.mk ((q29_:w.heap.size ≤ gb308));have n6_:=Aside0.mk ((q29_:w.heap.size ≤ gb308));have n7_:=Aside0.mk ((q33_:gb276 ≠ gb308));have n8_:=Aside0.mk ((q34_:gb308 ≠ gb276));have n9_:=Aside0.mk ((q35_:gb297 ≠ gb308));have n10_:=Aside0.mk ((q36_:gb308 ≠ gb297));have n11_:=Aside0.mk ((q37_:gb302 ≠ gb308));have n12_:=Aside0.mk ((q38_:gb308 ≠ gb302));clear BK276;clear BK297;clear BK302;clear HB;have BK276:=n0_;have BK297:=n1_;have BK302:=n2_;have HB:=n3_;have BK308:=n4_;have GW308:=n5_;have GE308:=n6_;have NB276_308:=n7_;have NB308_276:=n8_;have NB297_308:=n9_;have NB308_297:=n10_;have NB302_308:=n11_;have NB308_302:=n12_;clear n0_ n1_ n2_ n3_ n4_ n5_ n6_ n7_ n8_ n9_ n10_ n11_ n12_;clear hb hbox hg;have hnb115:=NB308_276.out;have hnc115:=NB276_308.out;have hnb116:=NB308_297.out;have hnc116:=NB297_308.out;have hnb117:=NB308_302.out;have hnc117:=NB302_308.out;have hcz118_0:w114.cell? ⟨gb308,0,none⟩ = some (.string (⟨#[]⟩:ByteArray)):=(blk_cell BK308.out 0).trans rfl;have hcz118_1:w114.cell? ⟨gb308,1,none⟩ = some (.string (⟨#[]⟩:ByteArray)):=(blk_cell BK308.out 1).trans rfl;have hcz118_2:w114.cell? ⟨gb308,2,none⟩ = some (.string (⟨#[]⟩:ByteArray)):=(blk_cell BK308.out 2).trans rfl;have hfz118_0:=blk_frozen BK308.out 0;have hfz118_1:=blk_frozen BK308.out 1;have hfz118_2:=blk_frozen BK308.out 2;have hcz119_0:w114.cell? ⟨gb297,0,none⟩ = some (.string t293):=(blk_cell BK297.out 0).trans rfl;have hcz119_1:w114.cell? ⟨gb297,1,none⟩ = some (.string t294):=(blk_cell BK297.out 1).trans rfl;have hcz119_2:w114.cell? ⟨gb297,2,none⟩ = some (.string t295):=(blk_cell BK297.out 2).trans rfl;have hfz119_0:=blk_frozen BK297.out 0;have hfz119_1:=blk_frozen BK297.out 1;have hfz119_2:=blk_frozen BK297.out 2) | ((with_reducible refine gate_callee (f:=14) rfl ?_);refine goesL_ (some 102) rfl rfl Tryd.func14 (by kernel_rfl) rfl #[.agg #[.string t293,.string t294,.string t295]] rfl q82_ ?_;(with_reducible refine (impl_LineOk.calls kj63 t293 t294 t295 true _ A106.out).mono ?_);rintro e w120 ⟨rfl,hb⟩;refine ⟨_,rfl,?_⟩;have n0_:=Aside0.mk (blk_below (g:=gb276) (o:=.cells #[.string t273,.string t274,.string t275] 29 (0,0)) q15_ hb);have n1_:=Aside0.mk (blk_below (g:=gb297) (o:=.cells #[.string t293,.string t294,.string t295] 29 (0,0)) q16_ hb);have n2_:=Aside0.mk (blk_below (g:=gb302) (o:=.cells #[.string t298,.string t299,.string t300] 29 (0,0)) q17_ hb);have n3_:=Aside0.mk (blk_below (g:=gb308) (o:=.cells #[.string t304,.string t305,.string t306] 29 (0,0)) q6_ hb);have n4_:=Aside0.mk (below_step q30_ hb);clear BK276;clear BK297;clear BK302;clear BK308;clear HB;have BK276:=n0_;have BK297:=n1_;have BK302:=n2_;have BK308:=n3_;have HB:=n4_;clear n0_ n1_ n2_ n3_ n4_;(try clear hb);have hcz121_0:w120.cell? ⟨gb308,0,none⟩ = some (.string t304):=(blk_cell BK308.out 0).trans rfl;have hcz121_1:w120.cell? ⟨gb308,1,none⟩ = some (.string t305):=(blk_cell BK308.out 1).trans rfl;have hcz121_2:w120.cell? ⟨gb308,2,none⟩ = some (.string t306):=(blk_cell BK308.out 2).trans rfl;have hfz121_0:=blk_frozen BK308.out 0;have hfz121_1:=blk_frozen BK308.out 1;have hfz121_2:=blk_frozen BK308.out 2;have hcz122_0:w120.cell? ⟨gb297,0,none⟩ = some (.string t293):=(blk_cell BK297.out 0).trans rfl;have hcz122_1:w120.cell? ⟨gb297,1,none⟩ = some (.string t294):=(blk_cell BK297.out 1).trans rfl;have hcz122_2:w120.cell? ⟨gb297,2,none⟩ = some (.string t295):=(blk_cell BK297.out 2).trans rfl;have hfz122_0:=blk_frozen BK297.out 0;have hfz122_1:=blk_frozen BK297.out 1;have hfz122_2:=blk_frozen BK297.out 2))
      go_ret
      exact ⟨q84_,q30_⟩
     replace c108:=Bool.eq_false_iff.mpr c108
     subst c108
     rewrite [if_neg (show ¬ (false = true) by decide)] at H
     obtain rfl:=Option.some.inj H
     have hnb123:=NB297_276.out
     have hnc123:=NB276_297.out
     have hnb124:=NB297_302.out
     have hnc124:=NB302_297.out
     have hcz125_0:wc.cell? ⟨gb297,0,none⟩ = some (.string t293):=bz_ BK297 0
     have hcz125_1:wc.cell? ⟨gb297,1,none⟩ = some (.string t294):=bz_ BK297 1
     have hcz125_2:wc.cell? ⟨gb297,2,none⟩ = some (.string t295):=bz_ BK297 2
     have hfz125_0:=blk_frozen BK297.out 0
     have hfz125_1:=blk_frozen BK297.out 1
     have hfz125_2:=blk_frozen BK297.out 2
     go_wp2_with (first | ((with_reducible refine gate_callee (f:=12) rfl ?_);refine goesL_ (some 97) rfl rfl Tryd.func12 (by kernel_rfl) rfl #[.agg #[.string t293,.string t294,.string t295]] rfl q82_ ?_;(with_reducible refine (impl_LineText.calls kj63 t293 t294 t295 t303 _ A104.out).mono ?_);rintro e w126 ⟨rfl,hb⟩;refine ⟨_,rfl,?_⟩;have n0_:=Aside0.mk (blk_below (g:=gb276) (o:=.cells #[.string t273,.string t274,.string t275] 29 (0,0)) q96_ hb);have n1_:=Aside0.mk (blk_below (g:=gb297) (o:=.cells #[.string t293,.string t294,.string t295] 29 (0,0)) q98_ hb);have n2_:=Aside0.mk (blk_below (g:=gb302) (o:=.cells #[.string t298,.string t299,.string t300] 29 (0,0)) q99_ hb);have n3_:=Aside0.mk (below_step q44_ hb);clear BK276;clear BK297;clear BK302;clear HB;have BK276:=n0_;have BK297:=n1_;have BK302:=n2_;have HB:=n3_;clear n0_ n1_ n2_ n3_;(try clear hb)) | ((with_reducible refine gate_callee (f:=16) rfl ?_);refine goesL_ (some 98) rfl rfl Tryd.func16 (by kernel_rfl) rfl #[.string t303] rfl q82_ ?_;(with_reducible refine (impl_ReadLine.calls kj63 t303 t304 t305 t306 false _ A105.out).mono ?_);rintro e w127 ⟨rfl,hb⟩;refine ⟨_,rfl,?_⟩;have n0_:=Aside0.mk (blk_below (g:=gb276) (o:=.cells #[.string t273,.string t274,.string t275] 29 (0,0)) q96_ hb);have n1_:=Aside0.mk (blk_below (g:=gb297) (o:=.cells #[.string t293,.string t294,.string t295] 29 (0,0)) q98_ hb);have n2_:=Aside0.mk (blk_below (g:=gb302) (o:=.cells #[.string t298,.string t299,.string t300] 29 (0,0)) q99_ hb);have n3_:=Aside0.mk (below_step q44_ hb);clear BK276;clear BK297;clear BK302;clear HB;have BK276:=n0_;have BK297:=n1_;have BK302:=n2_;have HB:=n3_;clear n0_ n1_ n2_ n3_;(try clear hb)) | ((with_reducible refine gate_dst (N:=14) rfl ?_);refine box_event ?hg (N:=14) ?hd (cs:=#[.string (⟨#[]⟩:ByteArray),.string (⟨#[]⟩:ByteArray),.string (⟨#[]⟩:ByteArray)]) (t:=29) ?hr ?_;(case hd => rfl);(case hg => rfl);(case hr => exact q130_);intro gb308 hg w128 hbox hb;have n0_:=Aside0.mk (blk_below (g:=gb276) (o:=.cells #[.string t273,.string t274,.string t275] 29 (0,0)) q96_ hb);have n1_:=Aside0.mk (blk_below (g:=gb297) (o:=.cells #[.string t293,.string t294,.string t295] 29 (0,0)) q98_ hb);have n2_:=Aside0.mk (blk_below (g:=gb302) (o:=.cells #[.string t298,.string t299,.string t300] 29 (0,0)) q99_ hb);have n3_:=Aside0.mk (below_step q44_ hb);have n4_:=Aside0.mk (hbox);have n5_:=Aside0.mk ((q29_:w.heap.size ≤ gb308));have n6_:=Aside0.mk ((q29_:w.heap.size ≤ gb308));have n7_:=Aside0.mk ((q33_:gb276 ≠ gb308));have n8_:=Aside0.mk ((q34_:gb308 ≠ gb276));have n9_:=Aside0.mk ((q35_:gb297 ≠ gb308));have n10_:=Aside0.mk ((q36_:gb308 ≠ gb297));have n11_:=Aside0.mk ((q37_:gb302 ≠ gb308));have n12_:=Aside0.mk ((q38_:gb308 ≠ gb302));clear BK276;clear BK297;clear BK302;clear HB;have BK276:=n0_;have BK297:=n1_;have BK302:=n2_;have HB:=n3_;have BK308:=n4_;have GW308:=n5_;have GE308:=n6_;have NB276_308:=n7_;have NB308_276:=n8_;have NB297_308:=n9_;have NB308_297:=n10_;have NB302_308:=n11_;have NB308_302:=n12_;clear n0_ n1_ n2_ n3_ n4_ n5_ n6_ n7_ n8_ n9_ n10_ n11_ n12_;clear hb hbox hg;have hnb129:=NB308_276.out;have hnc129:=NB276_308.out;have hnb130:=NB308_297.out;have hnc130:=NB297_308.out;have hnb131:=NB308_302.out;have hnc131:=NB302_308.out;have hcz132_0:w128.cell? ⟨gb308,0,none⟩ = some (.string (⟨#[]⟩:ByteArray)):=(blk_cell BK308.out 0).trans rfl;have hcz132_1:w128.cell? ⟨gb308,1,none⟩ = some (.string (⟨#[]⟩:ByteArray)):=(blk_cell BK308.out 1).trans rfl;have hcz132_2:w128.cell? ⟨gb308,2,none⟩ = some (.string (⟨#[]⟩:ByteArray)):=(blk_cell BK308.out 2).trans rfl;have hfz132_0:=blk_frozen BK308.out 0;have hfz132_1:=blk_frozen BK308.out 1;have hfz132_2:=blk_frozen BK308.out 2;have hcz133_0:w128.cell? ⟨gb297,0,none⟩ = some (.string t293):=(blk_cell BK297.out 0).trans rfl;have hcz133_1:w128.cell? ⟨gb297,1,none⟩ = some (.string t294):=(blk_cell BK297.out 1).trans rfl;have hcz133_2:w128.cell? ⟨gb297,2,none⟩ = some (.string t295):=(blk_cell BK297.out 2).trans rfl;have hfz133_0:=blk_frozen BK297.out 0;have hfz133_1:=blk_frozen BK297.out 1;have hfz133_2:=blk_frozen BK297.out 2) | ((with_reducible refine gate_callee (f:=14) rfl ?_);refine goesL_ (some 102) rfl rfl Tryd.func14 (by kernel_rfl) rfl #[.agg #[.string t293,.string t294,.string t295]] rfl q82_ ?_;(with_reducible refine (impl_LineOk.calls kj63 t293 t294 t295 true _ A106.out).mono ?_);rintro e w134 ⟨rfl,hb⟩;refine ⟨_,rfl,?_⟩;have n0_:=Aside0.mk (blk_below (g:=gb276) (o:=.cells #[.string t273,.string t274,.string t275] 29 (0,0)) q15_ hb);have n1_:=Aside0.mk (blk_below (g:=gb297) (o:=.cells #[.string t293,.string t294,.string t295] 29 (0,0)) q16_ hb);have n2_:=Aside0.mk (blk_below (g:=gb302) (o:=.cells #[.string t298,.string t299,.string t300] 29 (0,0)) q17_ hb);have n3_:=Aside0.mk (blk_below (g:=gb308) (o:=.cells #[.string t304,.string t305,.string t306] 29 (0,0)) q6_ hb);have n4_:=Aside0.mk (below_step q30_ hb);clear BK276;clear BK297;clear BK302;clear BK308;clear HB;have BK276:=n0_;have BK297:=n1_;have BK302:=n2_;have BK308:=n3_;have HB:=n4_;clear n0_ n1_ n2_ n3_ n4_;(try clear hb)))
     go_ret
     exact ⟨q84_,q30_⟩
    replace c107:=Bool.eq_false_iff.mpr c107
    subst c107
    rewrite [if_neg (show ¬ (false = true) by decide)] at H
    obtain rfl:=Option.some.inj H
    have hnb135:=NB297_276.out
    have hnc135:=NB276_297.out
    have hnb136:=NB297_302.out
    have hnc136:=NB302_297.out
    have hcz137_0:wc.cell? ⟨gb297,0,none⟩ = some (.string t293):=bz_ BK297 0
    have hcz137_1:wc.cell? ⟨gb297,1,none⟩ = some (.string t294):=bz_ BK297 1
    have hcz137_2:wc.cell? ⟨gb297,2,none⟩ = some (.string t295):=bz_ BK297 2
    have hfz137_0:=blk_frozen BK297.out 0
    have hfz137_1:=blk_frozen BK297.out 1
    have hfz137_2:=blk_frozen BK297.out 2
    go_wp2_with (first | ((with_reducible refine gate_callee (f:=12) rfl ?_);refine goesL_ (some 97) rfl rfl Tryd.func12 (by kernel_rfl) rfl #[.agg #[.string t293,.string t294,.string t295]] rfl q82_ ?_;(with_reducible refine (impl_LineText.calls kj63 t293 t294 t295 t303 _ A104.out).mono ?_);rintro e w138 ⟨rfl,hb⟩;refine ⟨_,rfl,?_⟩;have n0_:=Aside0.mk (blk_below (g:=gb276) (o:=.cells #[.string t273,.string t274,.string t275] 29 (0,0)) q96_ hb);have n1_:=Aside0.mk (blk_below (g:=gb297) (o:=.cells #[.string t293,.string t294,.string t295] 29 (0,0)) q98_ hb);have n2_:=Aside0.mk (blk_below (g:=gb302) (o:=.cells #[.string t298,.string t299,.string t300] 29 (0,0)) q99_ hb);have n3_:=Aside0.mk (below_step q44_ hb);clear BK276;clear BK297;clear BK302;clear HB;have BK276:=n0_;have BK297:=n1_;have BK302:=n2_;have HB:=n3_;clear n0_ n1_ n2_ n3_;(try clear hb)) | ((with_reducible refine gate_callee (f:=16) rfl ?_);refine goesL_ (some 98) rfl rfl Tryd.func16 (by kernel_rfl) rfl #[.string t303] rfl q82_ ?_;(with_reducible refine (impl_ReadLine.calls kj63 t303 t304 t305 t306 t307 _ A105.out).mono ?_);rintro e w139 ⟨rfl,hb⟩;refine ⟨_,rfl,?_⟩;have n0_:=Aside0.mk (blk_below (g:=gb276) (o:=.cells #[.string t273,.string t274,.string t275] 29 (0,0)) q96_ hb);have n1_:=Aside0.mk (blk_below (g:=gb297) (o:=.cells #[.string t293,.string t294,.string t295] 29 (0,0)) q98_ hb);have n2_:=Aside0.mk (blk_below (g:=gb302) (o:=.cells #[.string t298,.string t299,.string t300] 29 (0,0)) q99_ hb);have n3_:=Aside0.mk (below_step q44_ hb);clear BK276;clear BK297;clear BK302;clear HB;have BK276:=n0_;have BK297:=n1_;have BK302:=n2_;have HB:=n3_;clear n0_ n1_ n2_ n3_;(try clear hb)) | ((with_reducible refine gate_dst (N:=14) rfl ?_);refine box_event ?hg (N:=14) ?hd (cs:=#[.string (⟨#[]⟩:ByteArray),.string (⟨#[]⟩:ByteArray),.string (⟨#[]⟩:ByteArray)]) (t:=29) ?hr ?_;(case hd => rfl);(case hg => rfl);(case hr => exact q130_);intro gb308 hg w140 hbox hb;have n0_:=Aside0.mk (blk_below (g:=gb276) (o:=.cells #[.string t273,.string t274,.string t275] 29 (0,0)) q96_ hb);have n1_:=Aside0.mk (blk_below (g:=gb297) (o:=.cells #[.string t293,.string t294,.string t295] 29 (0,0)) q98_ hb);have n2_:=Aside0.mk (blk_below (g:=gb302) (o:=.cells #[.string t298,.string t299,.string t300] 29 (0,0)) q99_ hb);have n3_:=Aside0.mk (below_step q44_ hb);have n4_:=Aside0.mk (hbox);have n5_:=Aside0.mk ((q29_:w.heap.size ≤ gb308));have n6_:=Aside0.mk ((q29_:w.heap.size ≤ gb308));have n7_:=Aside0.mk ((q33_:gb276 ≠ gb308));have n8_:=Aside0.mk ((q34_:gb308 ≠ gb276));have n9_:=Aside0.mk ((q35_:gb297 ≠ gb308));have n10_:=Aside0.mk ((q36_:gb308 ≠ gb297));have n11_:=Aside0.mk ((q37_:gb302 ≠ gb308));have n12_:=Aside0.mk ((q38_:gb308 ≠ gb302));clear BK276;clear BK297;clear BK302;clear HB;have BK276:=n0_;have BK297:=n1_;have BK302:=n2_;have HB:=n3_;have BK308:=n4_;have GW308:=n5_;have GE308:=n6_;have NB276_308:=n7_;have NB308_276:=n8_;have NB297_308:=n9_;have NB308_297:=n10_;have NB302_308:=n11_;have NB308_302:=n12_;clear n0_ n1_ n2_ n3_ n4_ n5_ n6_ n7_ n8_ n9_ n10_ n11_ n12_;clear hb hbox hg;have hnb141:=NB308_276.out;have hnc141:=NB276_308.out;have hnb142:=NB308_297.out;have hnc142:=NB297_308.out;have hnb143:=NB308_302.out;have hnc143:=NB302_308.out;have hcz144_0:w140.cell? ⟨gb308,0,none⟩ = some (.string (⟨#[]⟩:ByteArray)):=(blk_cell BK308.out 0).trans rfl;have hcz144_1:w140.cell? ⟨gb308,1,none⟩ = some (.string (⟨#[]⟩:ByteArray)):=(blk_cell BK308.out 1).trans rfl;have hcz144_2:w140.cell? ⟨gb308,2,none⟩ = some (.string (⟨#[]⟩:ByteArray)):=(blk_cell BK308.out 2).trans rfl;have hfz144_0:=blk_frozen BK308.out 0;have hfz144_1:=blk_frozen BK308.out 1;have hfz144_2:=blk_frozen BK308.out 2;have hcz145_0:w140.cell? ⟨gb297,0,none⟩ = some (.string t293):=(blk_cell BK297.out 0).trans rfl;have hcz145_1:w140.cell? ⟨gb297,1,none⟩ = some (.string t294):=(blk_cell BK297.out 1).trans rfl;have hcz145_2:w140.cell? ⟨gb297,2,none⟩ = some (.string t295):=(blk_cell BK297.out 2).trans rfl;have hfz145_0:=blk_frozen BK297.out 0;have hfz145_1:=blk_frozen BK297.out 1;have hfz145_2:=blk_frozen BK297.out 2) | ((with_reducible refine gate_callee (f:=14) rfl ?_);refine goesL_ (some 102) rfl rfl Tryd.func14 (by kernel_rfl) rfl #[.agg #[.string t293,.string t294,.string t295]] rfl q82_ ?_;(with_reducible refine (impl_LineOk.calls kj63 t293 t294 t295 false _ A106.out).mono ?_);rintro e w146 ⟨rfl,hb⟩;refine ⟨_,rfl,?_⟩;have n0_:=Aside0.mk (blk_below (g:=gb276) (o:=.cells #[.string t273,.string t274,.string t275] 29 (0,0)) q15_ hb);have n1_:=Aside0.mk (blk_below (g:=gb297) (o:=.cells #[.string t293,.string t294,.string t295] 29 (0,0)) q16_ hb);have n2_:=Aside0.mk (blk_below (g:=gb302) (o:=.cells #[.string t298,.string t299,.string t300] 29 (0,0)) q17_ hb);have n3_:=Aside0.mk (blk_below (g:=gb308) (o:=.cells #[.string t304,.string t305,.string t306] 29 (0,0)) q6_ hb);have n4_:=Aside0.mk (below_step q30_ hb);clear BK276;clear BK297;clear BK302;clear BK308;clear HB;have BK276:=n0_;have BK297:=n1_;have BK302:=n2_;have BK308:=n3_;have HB:=n4_;clear n0_ n1_ n2_ n3_ n4_;(try clear hb)))
    go_ret
    exact ⟨q84_,q30_⟩
/-- THE ONE PURE STATEMENT of laws_FnLines: yours. -/
def laws_FnLines.Pure:Prop:=∀ (l0:List Int),l0.length ≤ maxLen → l0.length * 1 ≤ 140737488351232 → (∀ x ∈ l0,(Lit.int .u8 x).wf = true) → ∃ k,laws_FnLines.f k l0 = some true
theorem laws_FnLines.walk (P:laws_FnLines.Pure) (a0:Option Addr) (len0 cap0:Nat) (z0:List Int) (w:World) (w0:(a0 = none ∧ len0 = 0 ∧ cap0 = 0 ∧ z0 = []) ∨ ∃ x,a0 = some x ∧ len0 ≤ cap0 ∧ cap0 ≤ maxLen ∧ z0.length = cap0 ∧ (∀ i,i < z0.length → w.cell? (x.add i) = some (.int .u8 (z0.getD i 0))) ∧ ∀ n ∈ z0,(Lit.int .u8 n).wf = true) (y0:len0 * 1 ≤ 140737488351232) (hG:Go.Proofs.YtoiiaklmjpiejaaDoor.LibW.GL w) :
  Calls Tryd.prog 4 #[.slice a0 len0 cap0] w fun e w' => e = .returned (.bool true) ∧ Below w.heap.size w w':=by
 obtain ⟨l0,rfl,hr0,hm0,hw0,hc0⟩:=ReadsInt.ofRowC w0
 obtain ⟨k,h⟩:=P l0 hm0 y0 hw0
 refine (laws_FnLines.calls k _ _ l0 true w (Kd.C_of_reads (d:=(0:Int)) (h1:=fun _ => rfl) hr0) hc0 h).mono ?_
 rintro e w' ⟨rfl,hd⟩
 exact ⟨rfl,hd⟩
end Go.Proofs.YtoiiaklmjpiejaaDoor.QFnLines
