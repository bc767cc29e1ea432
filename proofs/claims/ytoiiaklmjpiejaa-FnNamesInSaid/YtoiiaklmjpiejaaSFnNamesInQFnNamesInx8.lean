/- The machine's side of a law,written by a program of this session for this claim. -/
import Derived.Test.YtoiiaklmjpiejaaSFnNamesInQq
import Derived.Laws.Cover1
import Derived.Test.YtoiiaklmjpiejaaSFnNamesInQFnNamesInx0
import Derived.Test.YtoiiaklmjpiejaaSFnNamesInQFnNamesInx1
import Derived.Test.YtoiiaklmjpiejaaSFnNamesInQFnNamesInx3
import Derived.Test.YtoiiaklmjpiejaaSFnNamesInQFnNamesInx5
import Derived.Test.YtoiiaklmjpiejaaSFnNamesInQFnNamesInx7
namespace Go.Proofs.Ytoiiaklmjpiejaa.QFnNamesIn
open Go.Proofs.Ytoiiaklmjpiejaa.Qq
open Go.RowKit Go.Proofs.Ytoiiaklmjpiejaa.LibX Go.Proofs.Ytoiiaklmjpiejaa.LibG Go.Proofs.Ytoiiaklmjpiejaa.LibCv Go.Proofs.Ytoiiaklmjpiejaa.LibNm Go.Proofs.YtoiiaklmjpiejaaW.PrintWords Go.Proofs.YtoiiaklmjpiejaaW.PrintLast Go.Proofs.YtoiiaklmjpiejaaW.PrintMore
attribute [local go_sem] max2_int min2_int max_two min_two max_three min_three max_four min_four   -- for this text's walks alone
set_option maxHeartbeats 8000000
set_option maxRecDepth 100000
set_option linter.unusedVariables false
set_option linter.unusedSimpArgs false
mutual
def laws_FnNamesIn.l0:Nat → List (S30) → List ByteArray → Int → Option (Bool)
 | 0,_,_,_ => none
 | k + 1,x3,x4,x5 => if x5 < (x4.length:Int) then (laws_FnNamesIn.l1 k x3 x4 x5 false 0) else (some true)
def laws_FnNamesIn.l1:Nat → List (S30) → List ByteArray → Int → Bool → Int → Option (Bool)
 | 0,_,_,_,_,_ => none
 | k + 1,x3,x4,x5,x6,x7 => if x7 < (x3.length:Int) then (if x6 = true then (laws_FnNamesIn.l1 k x3 x4 x5 true (wrap64 (x7 + 1))) else (if 0 ≤ x7 then (if 0 ≤ x5 then (if x5 < (x4.length:Int) then (laws_FnNamesIn.l1 k x3 x4 x5 (((rd_T30 x3 x7).f2).toList == (rdOf ByteArray.empty x4 x5).toList) (wrap64 (x7 + 1))) else (none)) else (none)) else (none))) else (if x6 = true then (if x5 > 0 then (if 0 ≤ (wrap64 (x5 - 1)) then (if (wrap64 (x5 - 1)) < (x4.length:Int) then (if 0 ≤ x5 then (if x5 < (x4.length:Int) then (laws_FnNamesIn.j2 k x3 x4 x5 (!(Op.bytesLess ((rdOf ByteArray.empty x4 (wrap64 (x5 - 1))).toList) ((rdOf ByteArray.empty x4 x5).toList)))) else (none)) else (none)) else (none)) else (none)) else (laws_FnNamesIn.j2 k x3 x4 x5 false)) else (laws_FnNamesIn.j2 k x3 x4 x5 true))
def laws_FnNamesIn.j2:Nat → List (S30) → List ByteArray → Int → Bool → Option (Bool)
 | 0,_,_,_,_ => none
 | k + 1,x3,x4,x5,x61 => if x61 = true then (some false) else (laws_FnNamesIn.l0 k x3 x4 (wrap64 (x5 + 1)))
end
def laws_FnNamesIn.f (k:Nat) (l0:List Int):Option (Bool):=(laws_big.f l0).bind fun t287 => (if t287 = true then (some true) else ((spec_DrawNamesIn.f k l0).bind fun t288 => ((impl_NamesIn.f k t288).bind fun t291 => ((spec_NamesIn.f k t288).bind fun t294 => ((laws_sameTexts.f k t291 t294).bind fun t297 => (if t297 = true then (laws_FnNamesIn.l0 k t288 t291 0) else (some false)))))))
theorem laws_FnNamesIn.mono_l:∀ k,(∀ y0 y1 y2,LeO (laws_FnNamesIn.l0 k y0 y1 y2) (laws_FnNamesIn.l0 (k + 1) y0 y1 y2)) ∧ (∀ y0 y1 y2 y3 y4,LeO (laws_FnNamesIn.l1 k y0 y1 y2 y3 y4) (laws_FnNamesIn.l1 (k + 1) y0 y1 y2 y3 y4)) ∧ (∀ y0 y1 y2 y3,LeO (laws_FnNamesIn.j2 k y0 y1 y2 y3) (laws_FnNamesIn.j2 (k + 1) y0 y1 y2 y3))
 | 0 => ⟨fun _ _ _ r h => by simp [laws_FnNamesIn.l0] at h,fun _ _ _ _ _ r h => by simp [laws_FnNamesIn.l1] at h,fun _ _ _ _ r h => by simp [laws_FnNamesIn.j2] at h⟩
 | k + 1 => by
  obtain ⟨ih0,ih1,ih2⟩:=laws_FnNamesIn.mono_l k
  refine ⟨?_,?_,?_⟩
  ·intro y0 y1 y2
   unfold laws_FnNamesIn.l0
   repeat' first
   | (with_reducible first | exact ih0 _ _ _ | exact ih1 _ _ _ _ _ | exact ih2 _ _ _ _ | exact impl_NamesIn.mono _ _ | exact laws_sameTexts.mono _ _ _ | exact spec_DrawNamesIn.mono _ _ | exact spec_NamesIn.mono _ _ | exact LeO.refl _ | exact LeO.none _ | refine LeO.ite ?_ ?_ | refine LeO.bind ?_ (fun _ => ?_))
   | exact ih0 _ _ _
   | exact ih1 _ _ _ _ _
   | exact ih2 _ _ _ _
   | exact impl_NamesIn.mono _ _
   | exact laws_sameTexts.mono _ _ _
   | exact spec_DrawNamesIn.mono _ _
   | exact spec_NamesIn.mono _ _
   | exact LeO.none _
   | refine LeO.ite ?_ ?_
   | refine LeO.bind ?_ (fun _ => ?_)
  ·intro y0 y1 y2 y3 y4
   unfold laws_FnNamesIn.l1
   repeat' first
   | (with_reducible first | exact ih0 _ _ _ | exact ih1 _ _ _ _ _ | exact ih2 _ _ _ _ | exact impl_NamesIn.mono _ _ | exact laws_sameTexts.mono _ _ _ | exact spec_DrawNamesIn.mono _ _ | exact spec_NamesIn.mono _ _ | exact LeO.refl _ | exact LeO.none _ | refine LeO.ite ?_ ?_ | refine LeO.bind ?_ (fun _ => ?_))
   | exact ih0 _ _ _
   | exact ih1 _ _ _ _ _
   | exact ih2 _ _ _ _
   | exact impl_NamesIn.mono _ _
   | exact laws_sameTexts.mono _ _ _
   | exact spec_DrawNamesIn.mono _ _
   | exact spec_NamesIn.mono _ _
   | exact LeO.none _
   | refine LeO.ite ?_ ?_
   | refine LeO.bind ?_ (fun _ => ?_)
  intro y0 y1 y2 y3
  unfold laws_FnNamesIn.j2
  repeat' first
  | (with_reducible first | exact ih0 _ _ _ | exact ih1 _ _ _ _ _ | exact ih2 _ _ _ _ | exact impl_NamesIn.mono _ _ | exact laws_sameTexts.mono _ _ _ | exact spec_DrawNamesIn.mono _ _ | exact spec_NamesIn.mono _ _ | exact LeO.refl _ | exact LeO.none _ | refine LeO.ite ?_ ?_ | refine LeO.bind ?_ (fun _ => ?_))
  | exact ih0 _ _ _
  | exact ih1 _ _ _ _ _
  | exact ih2 _ _ _ _
  | exact impl_NamesIn.mono _ _
  | exact laws_sameTexts.mono _ _ _
  | exact spec_DrawNamesIn.mono _ _
  | exact spec_NamesIn.mono _ _
  | exact LeO.none _
  | refine LeO.ite ?_ ?_
  | refine LeO.bind ?_ (fun _ => ?_)
theorem laws_FnNamesIn.mono:∀ a0 k,LeO (laws_FnNamesIn.f k a0) (laws_FnNamesIn.f (k + 1) a0):=by
 intro a0 k
 obtain ⟨ih0,ih1,ih2⟩:=laws_FnNamesIn.mono_l k
 unfold laws_FnNamesIn.f
 repeat' first
   | (with_reducible first | exact ih0 _ _ _ | exact ih1 _ _ _ _ _ | exact ih2 _ _ _ _ | exact impl_NamesIn.mono _ _ | exact laws_sameTexts.mono _ _ _ | exact spec_DrawNamesIn.mono _ _ | exact spec_NamesIn.mono _ _ | exact LeO.refl _ | exact LeO.none _ | refine LeO.ite ?_ ?_ | refine LeO.bind ?_ (fun _ => ?_))
   | exact ih0 _ _ _
   | exact ih1 _ _ _ _ _
   | exact ih2 _ _ _ _
   | exact impl_NamesIn.mono _ _
   | exact laws_sameTexts.mono _ _ _
   | exact spec_DrawNamesIn.mono _ _
   | exact spec_NamesIn.mono _ _
   | exact LeO.none _
   | refine LeO.ite ?_ ?_
   | refine LeO.bind ?_ (fun _ => ?_)
theorem laws_FnNamesIn.calls (k:Nat) (A0:Option Addr) (c0:Nat) (l0:List Int) (r:Bool) (w:World) (hr0:Kd.C (Kd.int .u8) w A0 l0.length l0) (hc0:l0.length ≤ c0) (h:laws_FnNamesIn.f k l0 = some r) :
  Calls Try.prog 3 #[.slice A0 l0.length c0] w fun e w' => e = .returned (.bool r) ∧ Below w.heap.size w w':=by
 have HR0:=Aside0.mk hr0
 have HC0:=Aside0.mk hc0
 clear hr0 hc0
 have HB:=Aside0.mk (Below.refl w.heap.size w)
 have H:=h;unfold laws_FnNamesIn.f at H
 clear h
 replace H:=Option.bind_eq_some_iff.mp H
 obtain ⟨t287,A20,H⟩:=H
 have A2:=Aside0.mk A20
 clear A20
 by_cases c3:t287 = true
 ·subst c3
  rewrite [if_pos rfl] at H
  obtain rfl:=Option.some.inj H
  go_enter Try.func3,Try.ntmps3
  go_wp2_with (first | (go_at_call 4;(with_reducible refine (laws_big.calls _ _ l0 true _ ?side1 ?side2 A2.out).mono ?_);(case side1 => exact q39_);(case side2 => exact HC0.out);rintro e w' ⟨rfl,⟨nd,rfl⟩⟩;(try first | exact ⟨rfl,_,World.drewN_drewN _ _ _⟩ | exact ⟨rfl,_,Eq.trans (World.drewN_drewN _ _ _) (congrArg (World.drewN _) (Nat.add_assoc _ _ _))⟩)))
  repeat (go_quiet (first | (go_at_call 4;(with_reducible refine (laws_big.calls _ _ l0 true _ ?side1 ?side2 A2.out).mono ?_);(case side1 => exact q39_);(case side2 => exact HC0.out);rintro e w' ⟨rfl,⟨nd,rfl⟩⟩;(try first | exact ⟨rfl,_,World.drewN_drewN _ _ _⟩ | exact ⟨rfl,_,Eq.trans (World.drewN_drewN _ _ _) (congrArg (World.drewN _) (Nat.add_assoc _ _ _))⟩)));try go_wp2_with (first | (go_at_call 4;(with_reducible refine (laws_big.calls _ _ l0 true _ ?side1 ?side2 A2.out).mono ?_);(case side1 => exact q39_);(case side2 => exact HC0.out);rintro e w' ⟨rfl,⟨nd,rfl⟩⟩;(try first | exact ⟨rfl,_,World.drewN_drewN _ _ _⟩ | exact ⟨rfl,_,Eq.trans (World.drewN_drewN _ _ _) (congrArg (World.drewN _) (Nat.add_assoc _ _ _))⟩))))
  go_ret
  exact ⟨q16_,q14_⟩
 replace c3:=Bool.eq_false_iff.mpr c3
 subst c3
 rewrite [if_neg (show ¬ (false = true) by decide)] at H
 replace H:=Option.bind_eq_some_iff.mp H
 obtain ⟨t288,A40,H⟩:=H
 have A4:=Aside0.mk A40
 clear A40
 replace H:=Option.bind_eq_some_iff.mp H
 obtain ⟨t291,A50,H⟩:=H
 have A5:=Aside0.mk A50
 clear A50
 replace H:=Option.bind_eq_some_iff.mp H
 obtain ⟨t294,A60,H⟩:=H
 have A6:=Aside0.mk A60
 clear A60
 replace H:=Option.bind_eq_some_iff.mp H
 obtain ⟨t297,A70,H⟩:=H
 have A7:=Aside0.mk A70
 clear A70
 by_cases c8:t297 = true
 ·subst c8
  rewrite [if_pos rfl] at H
  have H':=Aside0.mk H
  clear H
  go_enter Try.func3,Try.ntmps3
  go_wp2_with (first | (go_at_call 4;(with_reducible refine (laws_big.calls _ _ l0 false _ ?side1 ?side2 A2.out).mono ?_);(case side1 => exact q39_);(case side2 => exact HC0.out);rintro e w' ⟨rfl,⟨nd,rfl⟩⟩;(try first | exact ⟨rfl,_,World.drewN_drewN _ _ _⟩ | exact ⟨rfl,_,Eq.trans (World.drewN_drewN _ _ _) (congrArg (World.drewN _) (Nat.add_assoc _ _ _))⟩)) | (go_at_call 5;(with_reducible refine (spec_DrawNamesIn.calls k _ _ l0 t288 _ ?side1 ?side2 A4.out).mono ?_);(case side1 => exact q39_);(case side2 => exact HC0.out);rintro e w9 ⟨v289,rfl,ho0,hb⟩;have n0_:=Aside0.mk (Kd.R_lower ho0 (below_size q14_));have n1_:=Aside0.mk (below_step q14_ hb);clear HB;have HO290:=n0_;have HB:=n1_;clear n0_ n1_;(try clear hb);(try clear ho0);obtain ⟨Ao10,co10,eo10⟩:=Kd.R_slice HO290.out;subst eo10) | (go_at_call 6;(with_reducible refine (impl_NamesIn.calls k _ _ t288 t291 _ ?side1 ?side2 A5.out).mono ?_);(case side1 => exact q36_);(case side2 => exact (Kd.R_reads' HO290.out).2.1);rintro e w11 ⟨v292,rfl,ho0,hb⟩;have n0_:=Aside0.mk (Kd.R_below q23_ hb);have n1_:=Aside0.mk (Kd.R_lower ho0 (below_size q14_));have n2_:=Aside0.mk (below_step q14_ hb);clear HO290;clear HB;have HO290:=n0_;have HO293:=n1_;have HB:=n2_;clear n0_ n1_ n2_;(try clear hb);(try clear ho0)) | (go_at_call 8;(with_reducible refine (spec_NamesIn.calls k _ _ t288 t294 _ ?side1 ?side2 A6.out).mono ?_);(case side1 => exact q36_);(case side2 => exact (Kd.R_reads' HO290.out).2.1);rintro e w12 ⟨v295,rfl,ho0,hb⟩;have n0_:=Aside0.mk (Kd.R_below q23_ hb);have n1_:=Aside0.mk (Kd.R_elder' q24_ (Kd.R_base ho0) hb);have n2_:=Aside0.mk (Kd.R_lower (Kd.R_new' ho0 (Kd.R_lt q24_)) (below_size q14_));have n3_:=Aside0.mk (below_step q14_ hb);clear HO290;clear HO293;clear HB;have HO290:=n0_;have HO293:=n1_;have HO296:=n2_;have HB:=n3_;clear n0_ n1_ n2_ n3_;(try clear hb);(try clear ho0);obtain ⟨Ao13,co13,eo13⟩:=Kd.R_slice HO293.out;subst eo13;obtain ⟨Ao14,co14,eo14⟩:=Kd.R_slice HO296.out;subst eo14) | (go_at_call 7;(with_reducible refine (laws_sameTexts.calls k _ _ t291 _ _ t294 true _ ?side1 ?side2 ?side3 ?side4 A7.out).mono ?_);(case side1 => exact q37_);(case side2 => exact (Kd.R_reads' HO293.out).2.1);(case side3 => exact q38_);(case side4 => exact (Kd.R_reads' HO296.out).2.1);rintro e w' ⟨rfl,⟨nd,rfl⟩⟩;(try first | exact ⟨rfl,_,World.drewN_drewN _ _ _⟩ | exact ⟨rfl,_,Eq.trans (World.drewN_drewN _ _ _) (congrArg (World.drewN _) (Nat.add_assoc _ _ _))⟩)))
  repeat (go_quiet (first | (go_at_call 4;(with_reducible refine (laws_big.calls _ _ l0 false _ ?side1 ?side2 A2.out).mono ?_);(case side1 => exact q39_);(case side2 => exact HC0.out);rintro e w' ⟨rfl,⟨nd,rfl⟩⟩;(try first | exact ⟨rfl,_,World.drewN_drewN _ _ _⟩ | exact ⟨rfl,_,Eq.trans (World.drewN_drewN _ _ _) (congrArg (World.drewN _) (Nat.add_assoc _ _ _))⟩)) | (go_at_call 5;(with_reducible refine (spec_DrawNamesIn.calls k _ _ l0 t288 _ ?side1 ?side2 A4.out).mono ?_);(case side1 => exact q39_);(case side2 => exact HC0.out);rintro e w9 ⟨v289,rfl,ho0,hb⟩;have n0_:=Aside0.mk (Kd.R_lower ho0 (below_size q14_));have n1_:=Aside0.mk (below_step q14_ hb);clear HB;have HO290:=n0_;have HB:=n1_;clear n0_ n1_;(try clear hb);(try clear ho0);obtain ⟨Ao10,co10,eo10⟩:=Kd.R_slice HO290.out;subst eo10) | (go_at_call 6;(with_reducible refine (impl_NamesIn.calls k _ _ t288 t291 _ ?side1 ?side2 A5.out).mono ?_);(case side1 => exact q36_);(case side2 => exact (Kd.R_reads' HO290.out).2.1);rintro e w11 ⟨v292,rfl,ho0,hb⟩;have n0_:=Aside0.mk (Kd.R_below q23_ hb);have n1_:=Aside0.mk (Kd.R_lower ho0 (below_size q14_));have n2_:=Aside0.mk (below_step q14_ hb);clear HO290;clear HB;have HO290:=n0_;have HO293:=n1_;have HB:=n2_;clear n0_ n1_ n2_;(try clear hb);(try clear ho0)) | (go_at_call 8;(with_reducible refine (spec_NamesIn.calls k _ _ t288 t294 _ ?side1 ?side2 A6.out).mono ?_);(case side1 => exact q36_);(case side2 => exact (Kd.R_reads' HO290.out).2.1);rintro e w12 ⟨v295,rfl,ho0,hb⟩;have n0_:=Aside0.mk (Kd.R_below q23_ hb);have n1_:=Aside0.mk (Kd.R_elder' q24_ (Kd.R_base ho0) hb);have n2_:=Aside0.mk (Kd.R_lower (Kd.R_new' ho0 (Kd.R_lt q24_)) (below_size q14_));have n3_:=Aside0.mk (below_step q14_ hb);clear HO290;clear HO293;clear HB;have HO290:=n0_;have HO293:=n1_;have HO296:=n2_;have HB:=n3_;clear n0_ n1_ n2_ n3_;(try clear hb);(try clear ho0);obtain ⟨Ao13,co13,eo13⟩:=Kd.R_slice HO293.out;subst eo13;obtain ⟨Ao14,co14,eo14⟩:=Kd.R_slice HO296.out;subst eo14) | (go_at_call 7;(with_reducible refine (laws_sameTexts.calls k _ _ t291 _ _ t294 true _ ?side1 ?side2 ?side3 ?side4 A7.out).mono ?_);(case side1 => exact q37_);(case side2 => exact (Kd.R_reads' HO293.out).2.1);(case side3 => exact q38_);(case side4 => exact (Kd.R_reads' HO296.out).2.1);rintro e w' ⟨rfl,⟨nd,rfl⟩⟩;(try first | exact ⟨rfl,_,World.drewN_drewN _ _ _⟩ | exact ⟨rfl,_,Eq.trans (World.drewN_drewN _ _ _) (congrArg (World.drewN _) (Nat.add_assoc _ _ _))⟩)));try go_wp2_with (first | (go_at_call 4;(with_reducible refine (laws_big.calls _ _ l0 false _ ?side1 ?side2 A2.out).mono ?_);(case side1 => exact q39_);(case side2 => exact HC0.out);rintro e w' ⟨rfl,⟨nd,rfl⟩⟩;(try first | exact ⟨rfl,_,World.drewN_drewN _ _ _⟩ | exact ⟨rfl,_,Eq.trans (World.drewN_drewN _ _ _) (congrArg (World.drewN _) (Nat.add_assoc _ _ _))⟩)) | (go_at_call 5;(with_reducible refine (spec_DrawNamesIn.calls k _ _ l0 t288 _ ?side1 ?side2 A4.out).mono ?_);(case side1 => exact q39_);(case side2 => exact HC0.out);rintro e w9 ⟨v289,rfl,ho0,hb⟩;have n0_:=Aside0.mk (Kd.R_lower ho0 (below_size q14_));have n1_:=Aside0.mk (below_step q14_ hb);clear HB;have HO290:=n0_;have HB:=n1_;clear n0_ n1_;(try clear hb);(try clear ho0);obtain ⟨Ao10,co10,eo10⟩:=Kd.R_slice HO290.out;subst eo10) | (go_at_call 6;(with_reducible refine (impl_NamesIn.calls k _ _ t288 t291 _ ?side1 ?side2 A5.out).mono ?_);(case side1 => exact q36_);(case side2 => exact (Kd.R_reads' HO290.out).2.1);rintro e w11 ⟨v292,rfl,ho0,hb⟩;have n0_:=Aside0.mk (Kd.R_below q23_ hb);have n1_:=Aside0.mk (Kd.R_lower ho0 (below_size q14_));have n2_:=Aside0.mk (below_step q14_ hb);clear HO290;clear HB;have HO290:=n0_;have HO293:=n1_;have HB:=n2_;clear n0_ n1_ n2_;(try clear hb);(try clear ho0)) | (go_at_call 8;(with_reducible refine (spec_NamesIn.calls k _ _ t288 t294 _ ?side1 ?side2 A6.out).mono ?_);(case side1 => exact q36_);(case side2 => exact (Kd.R_reads' HO290.out).2.1);rintro e w12 ⟨v295,rfl,ho0,hb⟩;have n0_:=Aside0.mk (Kd.R_below q23_ hb);have n1_:=Aside0.mk (Kd.R_elder' q24_ (Kd.R_base ho0) hb);have n2_:=Aside0.mk (Kd.R_lower (Kd.R_new' ho0 (Kd.R_lt q24_)) (below_size q14_));have n3_:=Aside0.mk (below_step q14_ hb);clear HO290;clear HO293;clear HB;have HO290:=n0_;have HO293:=n1_;have HO296:=n2_;have HB:=n3_;clear n0_ n1_ n2_ n3_;(try clear hb);(try clear ho0);obtain ⟨Ao13,co13,eo13⟩:=Kd.R_slice HO293.out;subst eo13;obtain ⟨Ao14,co14,eo14⟩:=Kd.R_slice HO296.out;subst eo14) | (go_at_call 7;(with_reducible refine (laws_sameTexts.calls k _ _ t291 _ _ t294 true _ ?side1 ?side2 ?side3 ?side4 A7.out).mono ?_);(case side1 => exact q37_);(case side2 => exact (Kd.R_reads' HO293.out).2.1);(case side3 => exact q38_);(case side4 => exact (Kd.R_reads' HO296.out).2.1);rintro e w' ⟨rfl,⟨nd,rfl⟩⟩;(try first | exact ⟨rfl,_,World.drewN_drewN _ _ _⟩ | exact ⟨rfl,_,Eq.trans (World.drewN_drewN _ _ _) (congrArg (World.drewN _) (Nat.add_assoc _ _ _))⟩))))
  go_loopg [5] k (fun kq v5 w' => ∃ (x5_1:Int),v5 = .int .i64 x5_1 ∧ Aside0 (laws_FnNamesIn.l0 kq t288 t291 x5_1 = some r) ∧ Aside0 (kq ≤ k) ∧ Aside0 (Kd.R k30 30 w' w.heap.size (fun _ => True) (.slice Ao10 t288.length co10) t288) ∧ Aside0 (Kd.R Kd.string 9 w' w.heap.size (fun _ => True) (.slice Ao13 t291.length co13) t291) ∧ Aside0 (Below w.heap.size w w'))
  case atStart => exact ⟨(0),q19_,H',⟨Nat.le_refl _⟩,⟨q23_⟩,⟨by (with_reducible repeat (first | apply Kd.R_alloc | apply Kd.R_drewN | apply Kd.R_drew));exact Kd.R_mono HO293.out (fun _ hk => trivial)⟩,⟨q14_⟩⟩
  clear H'
  try clear p2
  try clear c3
  try clear p6
  try clear c8
  obtain ⟨x5_1,rfl,HA,HK1,HO_3,HO_4,HB⟩:=hrel
  cases gk with
  | zero => exact absurd HA.out (by simp [laws_FnNamesIn.l0])
  | succ k1 =>
   have H:=HA.out
   clear HA
   simp only [laws_FnNamesIn.l0] at H
   by_cases c15:x5_1 < (t291.length:Int)
   ·rw [if_pos c15] at H
    have c15b0:=decide_eq_true c15
    clear c15
    have H':=Aside0.mk H
    clear H
    go_wp2
    repeat (go_quiet (fail);try go_wp2)
    go_loopg [6,7] k1 (fun kq v6 v7 w' => ∃ (x6_2:Bool) (x7_2:Int),v6 = .bool x6_2 ∧ v7 = .int .i64 x7_2 ∧ Aside0 (laws_FnNamesIn.l1 kq t288 t291 x5_1 x6_2 x7_2 = some r) ∧ Aside0 (kq ≤ k1) ∧ Aside0 (Kd.R k30 30 w' w.heap.size (fun _ => True) (.slice Ao10 t288.length co10) t288) ∧ Aside0 (Kd.R Kd.string 9 w' w.heap.size (fun _ => True) (.slice Ao13 t291.length co13) t291) ∧ Aside0 (Below w.heap.size w w'))
    case atStart => exact ⟨(false),(0),q19_,q19_,H',⟨Nat.le_refl _⟩,⟨q26_⟩,⟨q27_⟩,⟨q14_⟩⟩
    clear H'
    try clear c1
    try clear p2 p2
    try clear c3
    try clear p6 p6
    try clear c8
    try clear c15
    try clear c15b0
    obtain ⟨x6_2,x7_2,rfl,rfl,HA,HK2,HO_3,HO_4,HB⟩:=hrel
    cases gk with
    | zero => exact absurd HA.out (by simp [laws_FnNamesIn.l1])
    | succ k2 =>
     have H:=HA.out
     clear HA
     simp only [laws_FnNamesIn.l1] at H
     by_cases c16:x7_2 < (t288.length:Int)
     ·rw [if_pos c16] at H
      have c16b0:=decide_eq_true c16
      clear c16
      by_cases c17:x6_2 = true
      ·subst c17
       rewrite [if_pos rfl] at H
       have H':=Aside0.mk H
       clear H
       go_wp2
       repeat (go_quiet (fail);try go_wp2)
       go_roundg k2
       case measure => have:=HK1.out;have:=HK2.out;omega
       case rel => exact ⟨(true),(wrap64 (x7_2 + 1)),q19_,q19_,H',⟨by have:=HK1.out;have:=HK2.out;omega⟩,⟨q26_⟩,⟨q27_⟩,⟨q14_⟩⟩
      replace c17:=Bool.eq_false_iff.mpr c17
      subst c17
      rewrite [if_neg (show ¬ (false = true) by decide)] at H
      by_cases c18:0 ≤ x7_2
      rotate_left
      ·rw [if_neg c18] at H
       exact absurd H (by simp)
      rw [if_pos c18] at H
      have c18b0:=decide_eq_true c18
      clear c18
      by_cases c19:0 ≤ x5_1
      rotate_left
      ·rw [if_neg c19] at H
       exact absurd H (by simp)
      rw [if_pos c19] at H
      have c19b0:=decide_eq_true c19
      clear c19
      by_cases c20:x5_1 < (t291.length:Int)
      rotate_left
      ·rw [if_neg c20] at H
       exact absurd H (by simp)
      rw [if_pos c20] at H
      have c20b0:=decide_eq_true c20
      clear c20
      have H':=Aside0.mk H
      clear H
      have p298:0 ≤ (x7_2:Int):=of_decide_eq_true q32_
      have q298:x7_2 < (t288.length:Int):=of_decide_eq_true q32_
      obtain ⟨ad298,e298,hx298_0,hx298_1,hx298_2⟩:=at_T30 (Kd.R_reads' HO_3.out).2.2 x7_2 p298 q298
      cases e298
      replace p298:=eq_true p298
      replace q298:=eq_true q298
      have p299:0 ≤ (x5_1:Int):=of_decide_eq_true q32_
      have q299:x5_1 < (t291.length:Int):=of_decide_eq_true q32_
      obtain ⟨ad299,e299,hx299_0⟩:=Kd.at_string (Kd.R_reads' HO_4.out).2.2 x5_1 p299 q299
      cases e299
      replace p299:=eq_true p299
      replace q299:=eq_true q299
      go_wp2
      repeat (go_quiet (fail);try go_wp2)
      go_roundg k2
      case measure => have:=HK1.out;have:=HK2.out;omega
      case rel => exact ⟨((((rd_T30 t288 x7_2).f2).toList == (rdOf ByteArray.empty t291 x5_1).toList)),(wrap64 (x7_2 + 1)),q19_,q19_,H',⟨by have:=HK1.out;have:=HK2.out;omega⟩,⟨q26_⟩,⟨q27_⟩,⟨q14_⟩⟩
     rw [if_neg c16] at H
     have c16b0:=decide_eq_false c16
     clear c16
     have HC21:=Aside0.mk H
     clear H
     go_upto_region 15 with (fail)
     repeat (go_quiet (fail);go_upto_region 15 with (fail))
     go_cut [61] (fun v61 wc => ∃ (kq:Nat) (x61_20:Bool),v61 = .bool x61_20 ∧ Aside0 (laws_FnNamesIn.j2 kq t288 t291 x5_1 x61_20 = some r) ∧ Aside0 (kq ≤ k2) ∧ Aside0 (Kd.R k30 30 wc w.heap.size (fun _ => True) (.slice Ao10 t288.length co10) t288) ∧ Aside0 (Kd.R Kd.string 9 wc w.heap.size (fun _ => True) (.slice Ao13 t291.length co13) t291) ∧ Aside0 (Below w.heap.size w wc))
     case first =>
      have H:=HC21.out
      clear HC21
      by_cases c22:x6_2 = true
      ·subst c22
       rewrite [if_pos rfl] at H
       by_cases c23:x5_1 > 0
       ·rw [if_pos c23] at H
        have c23b0:decide (0 < x5_1) = true:=decide_eq_true c23
        clear c23
        (first | rw [c23b0] | (simp only [i64_w,i32_w];rw [c23b0]) | rw [c23b9] | skip)
        obtain ⟨ji24,hji24⟩:∃ j_:Int,(wrap64 (x5_1 - 1)) = j_:=⟨_,rfl⟩
        (first | rewrite [hji24] at H | simp only [hji24] at H)
        have hji24w:(IntKind.i64.wrap (x5_1 - 1)) = ji24:=(i64_w _).trans hji24
        by_cases c25:0 ≤ (ji24)
        rotate_left
        ·rw [if_neg c25] at H
         exact absurd H (by simp)
        rw [if_pos c25] at H
        have c25b0:=decide_eq_true c25
        clear c25
        by_cases c26:(ji24) < (t291.length:Int)
        rotate_left
        ·rw [if_neg c26] at H
         exact absurd H (by simp)
        rw [if_pos c26] at H
        have c26b0:=decide_eq_true c26
        clear c26
        by_cases c27:0 ≤ x5_1
        rotate_left
        ·rw [if_neg c27] at H
         exact absurd H (by simp)
        rw [if_pos c27] at H
        have c27b0:=decide_eq_true c27
        clear c27
        by_cases c28:x5_1 < (t291.length:Int)
        rotate_left
        ·rw [if_neg c28] at H
         exact absurd H (by simp)
        rw [if_pos c28] at H
        have c28b0:=decide_eq_true c28
        clear c28
        have H':=Aside0.mk H
        clear H
        have p300:0 ≤ ((ji24):Int):=of_decide_eq_true q32_
        have q300:(ji24) < (t291.length:Int):=of_decide_eq_true q32_
        obtain ⟨ad300,e300,hx300_0⟩:=Kd.at_string (Kd.R_reads' HO_4.out).2.2 (ji24) p300 q300
        cases e300
        replace p300:=eq_true p300
        replace q300:=eq_true q300
        have p301:0 ≤ (x5_1:Int):=of_decide_eq_true q32_
        have q301:x5_1 < (t291.length:Int):=of_decide_eq_true q32_
        obtain ⟨ad301,e301,hx301_0⟩:=Kd.at_string (Kd.R_reads' HO_4.out).2.2 x5_1 p301 q301
        obtain rfl:ad300 = ad301:=(by injection e301)
        replace p301:=eq_true p301
        replace q301:=eq_true q301
        go_wp2
        repeat (go_quiet (fail);try go_wp2)
        go_meet
        case rel => exact ⟨_,(!(Op.bytesLess ((rdOf ByteArray.empty t291 (ji24)).toList) ((rdOf ByteArray.empty t291 x5_1).toList))),(by first | rfl | (simp;done) | (simp only [← hji24] <;> (first | rfl | (simp;done))) | (simp [*];done) | (simp;decide +kernel) | (simp [wrap64];done) | (simp [bne];done)),(by first | with_reducible exact H' | (have H2_:=H';simp only [← hji24] at H2_ ⊢;with_reducible exact H2_) | exact H'),⟨q29_⟩,⟨q26_⟩,⟨q27_⟩,⟨q14_⟩⟩
       rw [if_neg c23] at H
       have c23b0:decide (0 < x5_1) = false:=decide_eq_false c23
       clear c23
       (first | rw [c23b0] | (simp only [i64_w,i32_w];rw [c23b0]) | rw [c23b9] | skip)
       have H':=Aside0.mk H
       clear H
       go_wp2
       repeat (go_quiet (fail);try go_wp2)
       go_meet
       case rel => exact ⟨_,(false),q19_,H',⟨q29_⟩,⟨q26_⟩,⟨q27_⟩,⟨q14_⟩⟩
      replace c22:=Bool.eq_false_iff.mpr c22
      subst c22
      rewrite [if_neg (show ¬ (false = true) by decide)] at H
      have H':=Aside0.mk H
      clear H
      go_wp2
      repeat (go_quiet (fail);try go_wp2)
      go_meet
      case rel => exact ⟨_,(true),q19_,H',⟨q29_⟩,⟨q26_⟩,⟨q27_⟩,⟨q14_⟩⟩
     clear HC21
     try clear c1
     try clear c2
     try clear p2 p2
     try clear q2
     try clear hx2
     try clear c3
     try clear p3
     try clear q3
     try clear hx3
     try clear p6 p6
     try clear c8
     try clear c15
     try clear c15b0
     try clear c16
     try clear c16b0
     try clear c17
     try clear c18
     try clear c18b0
     try clear c19
     try clear c19b0
     try clear c20
     try clear c20b0
     try clear c22
     try clear c23
     try clear c23b0
     try clear c25
     try clear c25b0
     try clear c26
     try clear c26b0
     try clear c27
     try clear c27b0
     try clear c28
     try clear c28b0
     try clear hx298_0
     try clear hx298_1
     try clear hx298_2
     try clear hx299_0
     try clear hx300_0
     try clear hx301_0
     try clear p298
     try clear p299
     try clear p300
     try clear p301
     try clear q298
     try clear q299
     try clear q300
     try clear q301
     obtain ⟨kq,x61_20,rfl,HA,HJ20,HO_3,HO_4,HB⟩:=hcut
     cases kq with
     | zero => exact absurd HA.out (by simp [laws_FnNamesIn.j2])
     | succ kj20 =>
      have H:=HA.out
      clear HA
      simp only [laws_FnNamesIn.j2] at H
      by_cases c29:x61_20 = true
      ·subst c29
       rewrite [if_pos rfl] at H
       obtain rfl:=Option.some.inj H
       go_wp2
       repeat (go_quiet (fail);try go_wp2)
       go_ret
       exact ⟨q16_,q14_⟩
      replace c29:=Bool.eq_false_iff.mpr c29
      subst c29
      rewrite [if_neg (show ¬ (false = true) by decide)] at H
      have H':=Aside0.mk H
      clear H
      go_wp2
      repeat (go_quiet (fail);try go_wp2)
      go_roundg kj20
      case measure => have:=HK1.out;have:=HK2.out;have:=HJ20.out;omega
      case rel => exact ⟨(wrap64 (x5_1 + 1)),q19_,H',⟨by have:=HK1.out;have:=HK2.out;have:=HJ20.out;omega⟩,⟨q26_⟩,⟨q27_⟩,⟨q14_⟩⟩
   rw [if_neg c15] at H
   have c15b0:=decide_eq_false c15
   clear c15
   obtain rfl:=Option.some.inj H
   go_wp2
   repeat (go_quiet (fail);try go_wp2)
   go_ret
   exact ⟨q16_,q14_⟩
 replace c8:=Bool.eq_false_iff.mpr c8
 subst c8
 rewrite [if_neg (show ¬ (false = true) by decide)] at H
 obtain rfl:=Option.some.inj H
 go_enter Try.func3,Try.ntmps3
 go_wp2_with (first | (go_at_call 4;(with_reducible refine (laws_big.calls _ _ l0 false _ ?side1 ?side2 A2.out).mono ?_);(case side1 => exact q39_);(case side2 => exact HC0.out);rintro e w' ⟨rfl,⟨nd,rfl⟩⟩;(try first | exact ⟨rfl,_,World.drewN_drewN _ _ _⟩ | exact ⟨rfl,_,Eq.trans (World.drewN_drewN _ _ _) (congrArg (World.drewN _) (Nat.add_assoc _ _ _))⟩)) | (go_at_call 5;(with_reducible refine (spec_DrawNamesIn.calls k _ _ l0 t288 _ ?side1 ?side2 A4.out).mono ?_);(case side1 => exact q39_);(case side2 => exact HC0.out);rintro e w30 ⟨v289,rfl,ho0,hb⟩;have n0_:=Aside0.mk (Kd.R_lower ho0 (below_size q14_));have n1_:=Aside0.mk (below_step q14_ hb);clear HB;have HO290:=n0_;have HB:=n1_;clear n0_ n1_;(try clear hb);(try clear ho0);obtain ⟨Ao31,co31,eo31⟩:=Kd.R_slice HO290.out;subst eo31) | (go_at_call 6;(with_reducible refine (impl_NamesIn.calls k _ _ t288 t291 _ ?side1 ?side2 A5.out).mono ?_);(case side1 => exact q36_);(case side2 => exact (Kd.R_reads' HO290.out).2.1);rintro e w32 ⟨v292,rfl,ho0,hb⟩;have n0_:=Aside0.mk (Kd.R_below q23_ hb);have n1_:=Aside0.mk (Kd.R_lower ho0 (below_size q14_));have n2_:=Aside0.mk (below_step q14_ hb);clear HO290;clear HB;have HO290:=n0_;have HO293:=n1_;have HB:=n2_;clear n0_ n1_ n2_;(try clear hb);(try clear ho0)) | (go_at_call 8;(with_reducible refine (spec_NamesIn.calls k _ _ t288 t294 _ ?side1 ?side2 A6.out).mono ?_);(case side1 => exact q36_);(case side2 => exact (Kd.R_reads' HO290.out).2.1);rintro e w33 ⟨v295,rfl,ho0,hb⟩;have n0_:=Aside0.mk (Kd.R_below q23_ hb);have n1_:=Aside0.mk (Kd.R_elder' q24_ (Kd.R_base ho0) hb);have n2_:=Aside0.mk (Kd.R_lower (Kd.R_new' ho0 (Kd.R_lt q24_)) (below_size q14_));have n3_:=Aside0.mk (below_step q14_ hb);clear HO290;clear HO293;clear HB;have HO290:=n0_;have HO293:=n1_;have HO296:=n2_;have HB:=n3_;clear n0_ n1_ n2_ n3_;(try clear hb);(try clear ho0);obtain ⟨Ao34,co34,eo34⟩:=Kd.R_slice HO293.out;subst eo34;obtain ⟨Ao35,co35,eo35⟩:=Kd.R_slice HO296.out;subst eo35) | (go_at_call 7;(with_reducible refine (laws_sameTexts.calls k _ _ t291 _ _ t294 false _ ?side1 ?side2 ?side3 ?side4 A7.out).mono ?_);(case side1 => exact q37_);(case side2 => exact (Kd.R_reads' HO293.out).2.1);(case side3 => exact q38_);(case side4 => exact (Kd.R_reads' HO296.out).2.1);rintro e w' ⟨rfl,⟨nd,rfl⟩⟩;(try first | exact ⟨rfl,_,World.drewN_drewN _ _ _⟩ | exact ⟨rfl,_,Eq.trans (World.drewN_drewN _ _ _) (congrArg (World.drewN _) (Nat.add_assoc _ _ _))⟩)))
 repeat (go_quiet (first | (go_at_call 4;(with_reducible refine (laws_big.calls _ _ l0 false _ ?side1 ?side2 A2.out).mono ?_);(case side1 => exact q39_);(case side2 => exact HC0.out);rintro e w' ⟨rfl,⟨nd,rfl⟩⟩;(try first | exact ⟨rfl,_,World.drewN_drewN _ _ _⟩ | exact ⟨rfl,_,Eq.trans (World.drewN_drewN _ _ _) (congrArg (World.drewN _) (Nat.add_assoc _ _ _))⟩)) | (go_at_call 5;(with_reducible refine (spec_DrawNamesIn.calls k _ _ l0 t288 _ ?side1 ?side2 A4.out).mono ?_);(case side1 => exact q39_);(case side2 => exact HC0.out);rintro e w30 ⟨v289,rfl,ho0,hb⟩;have n0_:=Aside0.mk (Kd.R_lower ho0 (below_size q14_));have n1_:=Aside0.mk (below_step q14_ hb);clear HB;have HO290:=n0_;have HB:=n1_;clear n0_ n1_;(try clear hb);(try clear ho0);obtain ⟨Ao31,co31,eo31⟩:=Kd.R_slice HO290.out;subst eo31) | (go_at_call 6;(with_reducible refine (impl_NamesIn.calls k _ _ t288 t291 _ ?side1 ?side2 A5.out).mono ?_);(case side1 => exact q36_);(case side2 => exact (Kd.R_reads' HO290.out).2.1);rintro e w32 ⟨v292,rfl,ho0,hb⟩;have n0_:=Aside0.mk (Kd.R_below q23_ hb);have n1_:=Aside0.mk (Kd.R_lower ho0 (below_size q14_));have n2_:=Aside0.mk (below_step q14_ hb);clear HO290;clear HB;have HO290:=n0_;have HO293:=n1_;have HB:=n2_;clear n0_ n1_ n2_;(try clear hb);(try clear ho0)) | (go_at_call 8;(with_reducible refine (spec_NamesIn.calls k _ _ t288 t294 _ ?side1 ?side2 A6.out).mono ?_);(case side1 => exact q36_);(case side2 => exact (Kd.R_reads' HO290.out).2.1);rintro e w33 ⟨v295,rfl,ho0,hb⟩;have n0_:=Aside0.mk (Kd.R_below q23_ hb);have n1_:=Aside0.mk (Kd.R_elder' q24_ (Kd.R_base ho0) hb);have n2_:=Aside0.mk (Kd.R_lower (Kd.R_new' ho0 (Kd.R_lt q24_)) (below_size q14_));have n3_:=Aside0.mk (below_step q14_ hb);clear HO290;clear HO293;clear HB;have HO290:=n0_;have HO293:=n1_;have HO296:=n2_;have HB:=n3_;clear n0_ n1_ n2_ n3_;(try clear hb);(try clear ho0);obtain ⟨Ao34,co34,eo34⟩:=Kd.R_slice HO293.out;subst eo34;obtain ⟨Ao35,co35,eo35⟩:=Kd.R_slice HO296.out;subst eo35) | (go_at_call 7;(with_reducible refine (laws_sameTexts.calls k _ _ t291 _ _ t294 false _ ?side1 ?side2 ?side3 ?side4 A7.out).mono ?_);(case side1 => exact q37_);(case side2 => exact (Kd.R_reads' HO293.out).2.1);(case side3 => exact q38_);(case side4 => exact (Kd.R_reads' HO296.out).2.1);rintro e w' ⟨rfl,⟨nd,rfl⟩⟩;(try first | exact ⟨rfl,_,World.drewN_drewN _ _ _⟩ | exact ⟨rfl,_,Eq.trans (World.drewN_drewN _ _ _) (congrArg (World.drewN _) (Nat.add_assoc _ _ _))⟩)));try go_wp2_with (first | (go_at_call 4;(with_reducible refine (laws_big.calls _ _ l0 false _ ?side1 ?side2 A2.out).mono ?_);(case side1 => exact q39_);(case side2 => exact HC0.out);rintro e w' ⟨rfl,⟨nd,rfl⟩⟩;(try first | exact ⟨rfl,_,World.drewN_drewN _ _ _⟩ | exact ⟨rfl,_,Eq.trans (World.drewN_drewN _ _ _) (congrArg (World.drewN _) (Nat.add_assoc _ _ _))⟩)) | (go_at_call 5;(with_reducible refine (spec_DrawNamesIn.calls k _ _ l0 t288 _ ?side1 ?side2 A4.out).mono ?_);(case side1 => exact q39_);(case side2 => exact HC0.out);rintro e w30 ⟨v289,rfl,ho0,hb⟩;have n0_:=Aside0.mk (Kd.R_lower ho0 (below_size q14_));have n1_:=Aside0.mk (below_step q14_ hb);clear HB;have HO290:=n0_;have HB:=n1_;clear n0_ n1_;(try clear hb);(try clear ho0);obtain ⟨Ao31,co31,eo31⟩:=Kd.R_slice HO290.out;subst eo31) | (go_at_call 6;(with_reducible refine (impl_NamesIn.calls k _ _ t288 t291 _ ?side1 ?side2 A5.out).mono ?_);(case side1 => exact q36_);(case side2 => exact (Kd.R_reads' HO290.out).2.1);rintro e w32 ⟨v292,rfl,ho0,hb⟩;have n0_:=Aside0.mk (Kd.R_below q23_ hb);have n1_:=Aside0.mk (Kd.R_lower ho0 (below_size q14_));have n2_:=Aside0.mk (below_step q14_ hb);clear HO290;clear HB;have HO290:=n0_;have HO293:=n1_;have HB:=n2_;clear n0_ n1_ n2_;(try clear hb);(try clear ho0)) | (go_at_call 8;(with_reducible refine (spec_NamesIn.calls k _ _ t288 t294 _ ?side1 ?side2 A6.out).mono ?_);(case side1 => exact q36_);(case side2 => exact (Kd.R_reads' HO290.out).2.1);rintro e w33 ⟨v295,rfl,ho0,hb⟩;have n0_:=Aside0.mk (Kd.R_below q23_ hb);have n1_:=Aside0.mk (Kd.R_elder' q24_ (Kd.R_base ho0) hb);have n2_:=Aside0.mk (Kd.R_lower (Kd.R_new' ho0 (Kd.R_lt q24_)) (below_size q14_));have n3_:=Aside0.mk (below_step q14_ hb);clear HO290;clear HO293;clear HB;have HO290:=n0_;have HO293:=n1_;have HO296:=n2_;have HB:=n3_;clear n0_ n1_ n2_ n3_;(try clear hb);(try clear ho0);obtain ⟨Ao34,co34,eo34⟩:=Kd.R_slice HO293.out;subst eo34;obtain ⟨Ao35,co35,eo35⟩:=Kd.R_slice HO296.out;subst eo35) | (go_at_call 7;(with_reducible refine (laws_sameTexts.calls k _ _ t291 _ _ t294 false _ ?side1 ?side2 ?side3 ?side4 A7.out).mono ?_);(case side1 => exact q37_);(case side2 => exact (Kd.R_reads' HO293.out).2.1);(case side3 => exact q38_);(case side4 => exact (Kd.R_reads' HO296.out).2.1);rintro e w' ⟨rfl,⟨nd,rfl⟩⟩;(try first | exact ⟨rfl,_,World.drewN_drewN _ _ _⟩ | exact ⟨rfl,_,Eq.trans (World.drewN_drewN _ _ _) (congrArg (World.drewN _) (Nat.add_assoc _ _ _))⟩))))
 go_ret
 exact ⟨q16_,q14_⟩
/-- THE ONE PURE STATEMENT of laws_FnNamesIn: yours. -/
def laws_FnNamesIn.Pure:Prop:=∀ (l0:List Int),l0.length ≤ maxLen → l0.length * 1 ≤ 140737488351232 → (∀ x ∈ l0,(Lit.int .u8 x).wf = true) → ∃ k,laws_FnNamesIn.f k l0 = some true
theorem laws_FnNamesIn.walk (P:laws_FnNamesIn.Pure) (a0:Option Addr) (len0 cap0:Nat) (z0:List Int) (w:World) (w0:(a0 = none ∧ len0 = 0 ∧ cap0 = 0 ∧ z0 = []) ∨ ∃ x,a0 = some x ∧ len0 ≤ cap0 ∧ cap0 ≤ maxLen ∧ z0.length = cap0 ∧ (∀ i,i < z0.length → w.cell? (x.add i) = some (.int .u8 (z0.getD i 0))) ∧ ∀ n ∈ z0,(Lit.int .u8 n).wf = true) (y0:len0 * 1 ≤ 140737488351232) :
  Calls Try.prog 3 #[.slice a0 len0 cap0] w fun e w' => e = .returned (.bool true) ∧ Below w.heap.size w w':=by
 obtain ⟨l0,rfl,hr0,hm0,hw0,hc0⟩:=ReadsInt.ofRowC w0
 obtain ⟨k,h⟩:=P l0 hm0 y0 hw0
 refine (laws_FnNamesIn.calls k _ _ l0 true w (Kd.C_of_reads (d:=(0:Int)) (h1:=fun _ => rfl) hr0) hc0 h).mono ?_
 rintro e w' ⟨rfl,hd⟩
 exact ⟨rfl,hd⟩
end Go.Proofs.Ytoiiaklmjpiejaa.QFnNamesIn
